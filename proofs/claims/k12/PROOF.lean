import PyProof.Rows.All
import Wide.All
import OpenK.AllK
import Wide.FinOn
import KE.KStateDown
import KE.GoesEnum
import KE.SortData
import KE.KDictPairs
import PyProof.ReprRoads
import HandS.ForMost
import HandS.Defaults
import HandS.Star
import HandS.Style
import HandS.TupAny
import HandS.Zip
import HandS.Conv
import HandS.DictComp
import HandS.IsInst
import HandS.Flow
import HandS.Set
import HandS.More
import HandS.HeadHook2
import HandS.Head2
import HandS.HeadEnd
import PySem.PyData
import HandS.SetFor
import HandS.Strs
import HandS.Words
import PySem.Challenge.RW_firstfailing_k12_whole_rules_there_and_b
import HandS.Head0
import HandS.Head1
import HandS.HeadHook1
import HandS.Walk
import HandS.MakeKwOnly
import PyProof.ReprBulk
set_option Elab.async false
set_option linter.all false
set_option maxRecDepth 100000
set_option maxHeartbeats 4000000
/-! Fk A: short words over HandS: a def that stands behind the top (Def), a def that keeps its promise (Has), the same where no repr is under way (HasG); data at addresses. -/
namespace Fk
open PySem PySem.Spec PyProof.Rows L2

/-! ### defs -/
def Def (K : PySem.W.Frag) (mg : Str → Option Value) (x : Str) (st : Stmt) (dvs : List V) (kws : List (Str × V)) : Prop :=
  ∃ f fd, FunD K x x (defArgs st) (defBody st) (defScope st) dvs kws f fd ∧ mg x = some (.ref f)
/-- the def named x keeps sp at level k; dvs: the defaults that a call in this form fills up with -/
def Has (P : Program) (w : World) (K : PySem.W.Frag) (mg : Str → Option Value) (base : Heap) (x : Str) (dvs : List V) (k : Nat) (sp : Sp) : Prop :=
  ∃ f fd ps ds, FnOk P w K mg base CX0 k f fd ps sp ∧ mg x = some (.ref f) ∧ PySem.W.keepIn K (.ref f) = true ∧ Binds K fd ps ds ∧ Vals dvs ds
theorem pe_has {X : Cx} {x : Str} {dvs : List V} {k : Nat} {sp : Sp} {e : Expr} {es : List Expr} {t : TA} {p pos : Pos} (h : Has X.prog X.w X.K X.mg X.base x dvs k sp) (hr : Room k X.A) (hg : Gl X x) (ha : PA X (e :: es) t)
    (hdb : (x == ("__debug__" : Str)) = false := by decide) (he : starEach (e :: es) X.env = (false, eval e X.env) :: starEach es X.env := by rfl) (hpl : (backTo pos (starEach es X.env)).any (·.1) = false := by rfl) :
    PE X (.Call (.Name x p) (e :: es) [] pos) (tCall sp dvs E0 t) := by
  obtain ⟨f, fd, ps, ds, F, hm, hk, hb, hd⟩ := h
  exact pe_call F hr hg hm hk hb hd pass0 ha hdb he hpl
theorem pe_has0 {X : Cx} {x : Str} {dvs : List V} {k : Nat} {sp : Sp} {p pos : Pos} (h : Has X.prog X.w X.K X.mg X.base x dvs k sp) (hr : Room k X.A) (hg : Gl X x)
    (hdb : (x == ("__debug__" : Str)) = false := by decide) : PE X (.Call (.Name x p) [] [] pos) (tCall sp dvs E0 tNil) := by
  obtain ⟨f, fd, ps, ds, F, hm, hk, hb, hd⟩ := h
  exact pe_call0 F hr hg hm hk hb hd pass0 hdb
section
variable {P : Program} {w : World} {K : PySem.W.Frag} {mg : Str → Option Value} {base : Heap}
/-- a def without defaults -/
theorem has_of {x : Str} {st : Stmt} {N ps : List Str} {k : Nat} {sp : Sp} (D : Def K mg x st [] []) (S : FnScope N ps (defScope st)) (len : ∀ vs H Q E, sp vs H Q E → vs.length = ps.length)
    (bnd : ∀ (kV doc pm : Value) (an : Option Addr) (cdv ct : Value) (us : List Value), us.length = ps.length → bindArgs (PySem.W.fnOf x x (defArgs st) (defBody st) (defScope st) .none kV doc pm an cdv ct) ⟨us, []⟩ = pure (ps.zip us))
    (body : ∀ (f : Addr) (cdv : Value) (A : Around) (outer : List Env) (s : Shared) (H : Hp) (vs : List V) (Q : VK) (E : XK), Room k (A.deeper (envOfC x (defScope st) s.heap.objs.size f cdv)) → sp vs H Q E →
      ∃ t, PSs (cxOf CX0 P w K mg base N x (defScope st) f cdv A outer s H E).nox (defBody st) t ∧ t { nx := fun _ H' => Q .non H', rt := Q } (start N vs) H) : Has P w K mg base x [] (k + 1) sp := by
  obtain ⟨f, fd, F, hm⟩ := D
  refine ⟨f, fd, ps, [], F.ok S len (fun cdv A outer s H vs Q E hr h => ?_), hm, F.kp, F.bindsN bnd, .nil⟩
  obtain ⟨t, h1, h2⟩ := body f cdv A outer s H vs Q E hr h
  exact ⟨t, h1.nox, h2⟩
theorem Has.imp {x : Str} {dvs : List V} {k : Nat} {sp sp' : Sp} (h : Has P w K mg base x dvs k sp) (i : ∀ vs H Q E, sp' vs H Q E → sp vs H Q E) : Has P w K mg base x dvs k sp' := by
  obtain ⟨f, fd, ps, ds, F, r⟩ := h
  exact ⟨f, fd, ps, ds, F.imp i, r⟩
end

/-! ### the names of the built-ins are free -/
structure Bt (K : PySem.W.Frag) (mg : Str → Option Value) : Prop where
  isinstance_ : mg "isinstance" = none
  len_ : mg "len" = none
  all_ : mg "all" = none
  zip_ : mg "zip" = none
  enumerate_ : mg "enumerate" = none
  range_ : mg "range" = none
  max_ : mg "max" = none
  sorted_ : mg "sorted" = none
  repr_ : mg "repr" = none
  int_ : mg "int" = none
  str_ : mg "str" = none
  bool_ : mg "bool" = none
  tuple_ : mg "tuple" = none
  list_ : mg "list" = none
  dict_ : mg "dict" = none
  set_ : mg "set" = none
  low : ∃ t, mg "LOWERCASE" = some (.str "abcdefghijklmnopqrstuvwxyz" t)
  sides : ∃ a, mg "SIDES" = some (.ref a) ∧ ∀ H : Hp, SqT K H a [.str "left", .str "right"]
section
variable {X : Cx}
/-- a built-in class as a value -/
theorem pe_ty {x : Str} {n : String} {pos : Pos} (hg : Gl X x) (hm : X.mg x = none) (hv : bootBuiltins x = some (.type n)) (hn : x ≠ "__name__" := by decide) (hd : (x == ("__debug__" : Str)) = false := by decide) : PE X (.Name x pos) (tC (.ty n)) :=
  pe_bltn (v := .ty n) hg hm hv rfl hn hd
end

/-! ### isinstance of built-in classes, in short -/
def rIsB (K : PySem.W.Frag) : List V → Hp → VK → Prop := fun xs H Q => ∃ (x : V) (n m : String) (b : Bool), xs = [x, .ty m] ∧ TyX K H x (.type n) ∧ kitB n m = some b ∧ Q (.bl b) H
theorem call_isB {X : Cx} : CallR X (.builtin "isinstance") (rIsB X.K) := by
  intro pins s σ H xs us Q I r h
  obtain ⟨x, n, m, b, e1, e2, e3, q⟩ := h
  exact call_isi pins s σ H xs us Q I r ⟨x, .ty m, .type n, .type m, b, e1, .ty m, e2, kit_ty e3, q⟩
theorem ty_str {K : PySem.W.Frag} {H : Hp} {z : Str} : TyX K H (.str z) (.type "str") := .base (.str z)
theorem ty_int {K : PySem.W.Frag} {H : Hp} {z : Int} : TyX K H (.int z) (.type "int") := .base (.int z)
theorem ty_tup {K : PySem.W.Frag} {H : Hp} {a : Addr} {xs : List V} (h : SqT K H a xs) : TyX K H (.ref a) (.type "tuple") := by
  rcases h with (h | ⟨o, h⟩) | ⟨o, its, n, h1, h2, _⟩
  · exact .base (.tup h)
  · exact .fTuple h
  · exact .kTuple h1 h2
theorem ki_ss : kitB "str" "str" = some true := by decide +kernel
theorem ki_ii : kitB "int" "int" = some true := by decide +kernel
theorem ki_ib : kitB "int" "bool" = some false := by decide +kernel
theorem ki_tt : kitB "tuple" "tuple" = some true := by decide +kernel
end Fk

set_option Elab.async false
set_option linter.all false
/-! Fk M: books, rules and things as plain data; what the program computes with them, and the plain laws. No program in sight. -/
namespace Fk
open PySem

/-- a thing: the codes of its letters -/
abbrev Wd := List Nat
/-- the letters of a book with their lessers -/
abbrev Lts := List (Nat × List Nat)
inductive Rl where
  | drop (n : Nat) (l : Bool) | half (l : Bool) | empty | lower (l : Bool) | put (c : Nat) (w : Wd) (l : Bool)

def tx (l : Wd) : Str := ⟨l.toArray⟩
def sd (l : Bool) : Str := if l then "left" else "right"
def names (L : Lts) : List Nat := L.map (·.1)
def dW (x : Wd) : PyData := .str (tx x)
def dE (e : Nat × List Nat) : PyData := .tuple [dW [e.1], .tuple (e.2.map fun c => dW [c])]
def dL (L : Lts) : PyData := .tuple (L.map dE)
def dR : Rl → PyData
  | .drop n l => .tuple [.str "drop", .int n, .str (sd l)]
  | .half l => .tuple [.str "half", .str (sd l)]
  | .empty => .tuple [.str "empty"]
  | .lower l => .tuple [.str "lower", .str (sd l)]
  | .put c w l => .tuple [.str "put", dW [c], dW w, .str (sd l)]
def dRs (R : List Rl) : PyData := .tuple (R.map dR)
def dB (L : Lts) (R : List Rl) : PyData := .tuple [dL L, dRs R]

def lower26 (c : Nat) : Prop := 97 ≤ c ∧ c ≤ 122
structure LOk (L : Lts) : Prop where
  low : ∀ e ∈ L, lower26 e.1
  asc : (names L).Pairwise (· < ·)
  les : ∀ e ∈ L, e.2.Pairwise (· < ·) ∧ ∀ c ∈ e.2, c ∈ names L
  rank : ∃ r : Nat → Nat, ∀ e ∈ L, ∀ c ∈ e.2, r c < r e.1
  len : L.length ≤ 4
def WOk (L : Lts) (x : Wd) : Prop := (∀ c ∈ x, c ∈ names L) ∧ x.length ≤ 20
def ROk (L : Lts) : Rl → Prop
  | .drop n _ => 1 ≤ n ∧ n ≤ 100
  | .half _ => True
  | .empty => True
  | .lower _ => True
  | .put c w _ => c ∈ names L ∧ WOk L w ∧ w ≠ [c]
structure BOk (L : Lts) (R : List Rl) : Prop where
  l : LOk L
  r : ∀ x ∈ R, ROk L x
  len : R.length ≤ 20

/-! ### letters -/
theorem LOk.nameLow {L : Lts} (h : LOk L) {c : Nat} (hc : c ∈ names L) : lower26 c := by
  obtain ⟨e, he, rfl⟩ := List.mem_map.mp hc
  exact h.low e he
theorem LOk.nd {L : Lts} (h : LOk L) : (names L).Nodup := h.asc.imp fun h => Nat.ne_of_lt h
/-- the lessers of a letter -/
def lsOf (L : Lts) (c : Nat) : List Nat := ((L.find? fun e => e.1 == c).map (·.2)).getD []
theorem lsOf_mem : ∀ {L : Lts} {e : Nat × List Nat}, (names L).Nodup → e ∈ L → lsOf L e.1 = e.2
  | [], _, _, h => nomatch h
  | a :: L, e, nd, h => by
    unfold names at nd
    rw [List.map_cons, List.nodup_cons] at nd
    unfold lsOf
    rcases List.mem_cons.mp h with rfl | h
    · rw [List.find?_cons_of_pos (by simp)]
      rfl
    · have hne : ¬ a.1 = e.1 := fun q => nd.1 (by rw [q]; exact List.mem_map_of_mem h)
      rw [List.find?_cons_of_neg (by simpa using hne)]
      exact lsOf_mem nd.2 h
theorem LOk.ent {L : Lts} (h : LOk L) {c : Nat} (hc : c ∈ names L) : (c, lsOf L c) ∈ L := by
  obtain ⟨e, he, rfl⟩ := List.mem_map.mp hc
  rw [lsOf_mem h.nd he]
  exact he
theorem LOk.lsNames {L : Lts} (h : LOk L) {c d : Nat} (hc : c ∈ names L) (hd : d ∈ lsOf L c) : d ∈ names L := (h.les _ (h.ent hc)).2 d hd
theorem nodup_le : ∀ (l m : List Nat), l.Nodup → (∀ x ∈ l, x ∈ m) → l.length ≤ m.length
  | [], _, _, _ => Nat.zero_le _
  | x :: l, m, nd, h => by
    obtain ⟨h1, h2⟩ := List.nodup_cons.mp nd
    have hx := h x List.mem_cons_self
    have := nodup_le l (m.erase x) h2 fun y hy => (List.mem_erase_of_ne (fun e => h1 (by rw [← e]; exact hy))).mpr (h y (List.mem_cons_of_mem _ hy))
    rw [List.length_erase_of_mem hx] at this
    have hp := List.length_pos_of_mem hx
    rw [List.length_cons]
    omega
theorem LOk.lsLen {L : Lts} (h : LOk L) {c : Nat} (hc : c ∈ names L) : (lsOf L c).length ≤ 4 := by
  have h1 := h.les _ (h.ent hc)
  have h2 := nodup_le (lsOf L c) (names L) (h1.1.imp fun h => Nat.ne_of_lt h) h1.2
  have h3 := h.len
  unfold names at h2
  rw [List.length_map] at h2
  omega

/-! ### reached letters: the loop by its fuel -/
def reachGo (L : Lts) : Nat → List Nat → List Nat → List Nat
  | 0, found, _ => found
  | m + 1, found, waiting => match waiting.getLast? with
    | none => found
    | some one => if one ∈ found then reachGo L m found waiting.dropLast else reachGo L m (found ++ [one]) (waiting.dropLast ++ lsOf L one)
def reach (L : Lts) (c : Nat) : List Nat := reachGo L 24 [] (lsOf L c)
/-- what the loop keeps: found is a row of unlike letters, waiting too of letters, both below the rank of c; the fuel suffices -/
structure RInv (L : Lts) (r : Nat → Nat) (c : Nat) (m : Nat) (found waiting : List Nat) : Prop where
  nd : found.Nodup
  fn : ∀ x ∈ found, x ∈ names L ∧ r x < r c
  wn : ∀ x ∈ waiting, x ∈ names L ∧ r x < r c
  fuel : 5 * (4 - found.length) + waiting.length ≤ m
theorem RInv.len {L : Lts} {r : Nat → Nat} {c m : Nat} {found waiting : List Nat} (h : LOk L) (i : RInv L r c m found waiting) : found.length ≤ 4 := by
  have := nodup_le found (names L) i.nd fun x hx => (i.fn x hx).1
  have h3 := h.len
  unfold names at this
  rw [List.length_map] at this
  omega
theorem RInv.old {L : Lts} {r : Nat → Nat} {c m : Nat} {found waiting : List Nat} {one : Nat} (i : RInv L r c m found (waiting ++ [one])) : ∃ m', m = m' + 1 ∧ RInv L r c m' found waiting := by
  have hf := i.fuel
  rw [List.length_append] at hf
  cases m with
  | zero => simp at hf
  | succ m' =>
    refine ⟨m', rfl, i.nd, i.fn, fun x hx => i.wn x (List.mem_append_left _ hx), ?_⟩
    simp at hf
    omega
theorem RInv.new {L : Lts} {r : Nat → Nat} {c m : Nat} {found waiting : List Nat} {one : Nat} (h : LOk L) (hr : ∀ e ∈ L, ∀ c ∈ e.2, r c < r e.1) (i : RInv L r c m found (waiting ++ [one])) (hn : one ∉ found) :
    ∃ m', m = m' + 1 ∧ RInv L r c m' (found ++ [one]) (waiting ++ lsOf L one) := by
  have h1 := i.wn one (List.mem_append_right _ (List.mem_singleton.mpr rfl))
  have hl := h.lsLen h1.1
  have hf := i.fuel
  rw [List.length_append] at hf
  have i2 : (found ++ [one]).Nodup := by
    rw [List.nodup_append]
    refine ⟨i.nd, by simp, fun x hx y hy e => ?_⟩
    rw [List.mem_singleton] at hy
    exact hn (by rw [← hy, ← e]; exact hx)
  have fn2 : ∀ x ∈ found ++ [one], x ∈ names L ∧ r x < r c := fun x hx => by
    rcases List.mem_append.mp hx with z | z
    · exact i.fn x z
    · rw [List.mem_singleton] at z
      rw [z]
      exact h1
  have hle := nodup_le _ (names L) i2 fun x hx => (fn2 x hx).1
  have h3 := h.len
  have h4 : (names L).length = L.length := List.length_map ..
  rw [List.length_append] at hle
  cases m with
  | zero => simp at hf
  | succ m' =>
    refine ⟨m', rfl, i2, fn2, fun x hx => ?_, ?_⟩
    · rcases List.mem_append.mp hx with z | z
      · exact i.wn x (List.mem_append_left _ z)
      · exact ⟨h.lsNames h1.1 z, Nat.lt_trans (hr _ (h.ent h1.1) x z) h1.2⟩
    · simp at hf hle ⊢
      omega
theorem reachGo_nil (L : Lts) (m : Nat) (found : List Nat) : reachGo L m found [] = found := by
  cases m <;> rfl
theorem reachGo_old (L : Lts) (m : Nat) (found waiting : List Nat) {one : Nat} (h : one ∈ found) : reachGo L (m + 1) found (waiting ++ [one]) = reachGo L m found waiting := by
  rw [reachGo, List.getLast?_concat]
  dsimp only
  rw [if_pos h, List.dropLast_concat]
theorem reachGo_new (L : Lts) (m : Nat) (found waiting : List Nat) {one : Nat} (h : one ∉ found) : reachGo L (m + 1) found (waiting ++ [one]) = reachGo L m (found ++ [one]) (waiting ++ lsOf L one) := by
  rw [reachGo, List.getLast?_concat]
  dsimp only
  rw [if_neg h, List.dropLast_concat]
theorem RInv.start {L : Lts} {r : Nat → Nat} {c : Nat} (h : LOk L) (hr : ∀ e ∈ L, ∀ c ∈ e.2, r c < r e.1) (hc : c ∈ names L) : RInv L r c 24 [] (lsOf L c) := by
  have hl := h.lsLen hc
  refine ⟨List.nodup_nil, fun x hx => (nomatch hx), fun x hx => ⟨h.lsNames hc hx, hr _ (h.ent hc) x hx⟩, ?_⟩
  simp
  omega
/-- what is reached: letters, below c, at most four -/
theorem reachGo_spec {L : Lts} {r : Nat → Nat} {c : Nat} (h : LOk L) (hr : ∀ e ∈ L, ∀ c ∈ e.2, r c < r e.1) : ∀ (m : Nat) (found waiting : List Nat), RInv L r c m found waiting →
    (∀ x ∈ reachGo L m found waiting, x ∈ names L ∧ r x < r c) ∧ (reachGo L m found waiting).length ≤ 4
  | 0, found, waiting, i => ⟨i.fn, i.len h⟩
  | m + 1, found, waiting, i => by
    rcases List.eq_nil_or_concat waiting with rfl | ⟨w, one, rfl⟩
    · rw [reachGo_nil]
      exact ⟨i.fn, i.len h⟩
    · rw [List.concat_eq_append] at i ⊢
      by_cases ho : one ∈ found
      · rw [reachGo_old L m found w ho]
        obtain ⟨m', e, i'⟩ := i.old
        cases e
        exact reachGo_spec h hr _ _ _ i'
      · rw [reachGo_new L m found w ho]
        obtain ⟨m', e, i'⟩ := i.new h hr ho
        cases e
        exact reachGo_spec h hr _ _ _ i'
theorem reach_names {L : Lts} {c : Nat} (h : LOk L) (hc : c ∈ names L) : ∀ x ∈ reach L c, x ∈ names L := by
  obtain ⟨r, hr⟩ := h.rank
  exact fun x hx => ((reachGo_spec h hr 24 [] (lsOf L c) (.start h hr hc)).1 x hx).1
theorem reach_len {L : Lts} {c : Nat} (h : LOk L) (hc : c ∈ names L) : (reach L c).length ≤ 4 := by
  obtain ⟨r, hr⟩ := h.rank
  exact (reachGo_spec h hr 24 [] (lsOf L c) (.start h hr hc)).2
theorem reach_self {L : Lts} {c : Nat} (h : LOk L) (hc : c ∈ names L) : c ∉ reach L c := by
  obtain ⟨r, hr⟩ := h.rank
  exact fun hx => Nat.lt_irrefl _ ((reachGo_spec h hr 24 [] (lsOf L c) (.start h hr hc)).1 c hx).2

/-! ### results of rules, steps -/
def plc (n : Nat) (l : Bool) : List Nat := if l then List.range n else (List.range n).reverse
def resOf (L : Lts) (x : Wd) : Rl → List Wd
  | .drop n l => (plc (x.length + 1 - n) l).map fun k => x.take k ++ x.drop (k + n)
  | .half l => [if l then x.take (x.length / 2) else x.drop (x.length - x.length / 2)]
  | .empty => [[]]
  | .lower l => (plc x.length l).flatMap fun k => (lsOf L (x.getD k 0)).map fun c => x.take k ++ ([c] ++ x.drop (k + 1))
  | .put c w l => ((plc x.length l).filter fun k => x.getD k 0 == c).map fun k => x.take k ++ (w ++ x.drop (k + 1))
/-- a row of unlike things grows by those that it lacks -/
def addNew : List Wd → List Wd → List Wd
  | acc, [] => acc
  | acc, y :: ys => if y ∈ acc then addNew acc ys else addNew (acc ++ [y]) ys
theorem addNew_app : ∀ (acc xs ys : List Wd), addNew acc (xs ++ ys) = addNew (addNew acc xs) ys
  | _, [], _ => rfl
  | acc, x :: xs, ys => by
    show (if x ∈ acc then addNew acc (xs ++ ys) else addNew (acc ++ [x]) (xs ++ ys)) = addNew (if x ∈ acc then addNew acc xs else addNew (acc ++ [x]) xs) ys
    split
    · exact addNew_app acc xs ys
    · exact addNew_app (acc ++ [x]) xs ys
def allRes (L : Lts) (R : List Rl) (x : Wd) : List Wd := R.flatMap (resOf L x)
/-- the steps, as the program finds them: all keys but the first one -/
def stp (L : Lts) (R : List Rl) (x : Wd) : List Wd := (addNew [x] (allRes L R x)).drop 1
/-- .. as the law finds them -/
def addNot (x : Wd) : List Wd → List Wd → List Wd
  | acc, [] => acc
  | acc, y :: ys => if y ≠ x ∧ y ∉ acc then addNot x (acc ++ [y]) ys else addNot x acc ys
theorem addNot_app (x : Wd) : ∀ (acc xs ys : List Wd), addNot x acc (xs ++ ys) = addNot x (addNot x acc xs) ys
  | _, [], _ => rfl
  | acc, y :: xs, ys => by
    show (if y ≠ x ∧ y ∉ acc then addNot x (acc ++ [y]) (xs ++ ys) else addNot x acc (xs ++ ys)) = addNot x (if y ≠ x ∧ y ∉ acc then addNot x (acc ++ [y]) xs else addNot x acc xs) ys
    split
    · exact addNot_app x (acc ++ [y]) xs ys
    · exact addNot_app x acc xs ys
theorem addNew_not (x : Wd) : ∀ (acc ys : List Wd), addNew (x :: acc) ys = x :: addNot x acc ys
  | _, [] => rfl
  | acc, y :: ys => by
    show (if y ∈ x :: acc then addNew (x :: acc) ys else addNew (x :: (acc ++ [y])) ys) = x :: (if y ≠ x ∧ y ∉ acc then addNot x (acc ++ [y]) ys else addNot x acc ys)
    by_cases h : y ∈ x :: acc
    · have h' : ¬ (y ≠ x ∧ y ∉ acc) := fun q => by
        rcases List.mem_cons.mp h with z | z
        · exact q.1 z
        · exact q.2 z
      rw [if_pos h, if_neg h']
      exact addNew_not x acc ys
    · have h' : y ≠ x ∧ y ∉ acc := ⟨fun e => h (List.mem_cons.mpr (.inl e)), fun e => h (List.mem_cons_of_mem _ e)⟩
      rw [if_neg h, if_pos h']
      exact addNew_not x (acc ++ [y]) ys
theorem stp_law (L : Lts) (R : List Rl) (x : Wd) : stp L R x = addNot x [] (allRes L R x) := by
  unfold stp
  rw [addNew_not]
  rfl

/-! ### changes of books -/
def insAt (R : List Rl) (r : Rl) (i : Nat) : List Rl := R.take i ++ r :: R.drop i
def cutAt (R : List Rl) (k : Nat) : List Rl := R.take k ++ R.drop (k + 1)
def mirR : Rl → Rl
  | .drop n l => .drop n (!l)
  | .half l => .half (!l)
  | .empty => .empty
  | .lower l => .lower (!l)
  | .put c w l => .put c w (!l)
theorem mirR_mirR (r : Rl) : mirR (mirR r) = r := by cases r <;> simp [mirR]
theorem mir_mir (R : List Rl) : (R.map mirR).map mirR = R := by
  rw [List.map_map]
  conv => rhs; rw [← List.map_id R]
  exact List.map_congr_left fun r _ => mirR_mirR r
theorem mirR_ok {L : Lts} {r : Rl} (h : ROk L r) : ROk L (mirR r) := by cases r <;> exact h
theorem ins_get {R : List Rl} {r : Rl} {i : Nat} (h : i ≤ R.length) : (insAt R r i)[i]? = some r := by
  unfold insAt
  rw [List.getElem?_append_right (by rw [List.length_take]; omega), List.length_take]
  simp [Nat.min_eq_left h]
theorem cut_ins {R : List Rl} {r : Rl} {i : Nat} (h : i ≤ R.length) : cutAt (insAt R r i) i = R := by
  unfold cutAt insAt
  have h1 : (R.take i).length = i := by rw [List.length_take]; omega
  rw [List.take_left' h1]
  have h2 : (R.take i ++ r :: R.drop i).drop (i + 1) = R.drop i := by
    rw [show R.take i ++ r :: R.drop i = (R.take i ++ [r]) ++ R.drop i by simp]
    exact List.drop_left' (by rw [List.length_append, h1]; rfl)
  rw [h2, List.take_append_drop]
theorem ins_cut {R : List Rl} {r : Rl} {i : Nat} (h : R[i]? = some r) : insAt (cutAt R i) r i = R := by
  obtain ⟨hi, e⟩ := List.getElem?_eq_some_iff.mp h
  unfold cutAt insAt
  have h1 : (R.take i).length = i := by rw [List.length_take]; omega
  rw [List.take_left' h1, List.drop_left' h1]
  rw [← e, ← List.drop_eq_getElem_cons hi, List.take_append_drop]
theorem cut_len {R : List Rl} {i : Nat} (h : i < R.length) : (cutAt R i).length = R.length - 1 := by
  unfold cutAt
  rw [List.length_append, List.length_take, List.length_drop]
  omega
theorem ins_len (R : List Rl) (r : Rl) (i : Nat) : (insAt R r i).length = R.length + 1 := by
  unfold insAt
  rw [List.length_append, List.length_take, List.length_cons, List.length_drop]
  omega
theorem ins_end (R : List Rl) (r : Rl) : insAt R r R.length = R ++ [r] := by
  unfold insAt
  rw [List.take_length, List.drop_length]
theorem mem_ins {R : List Rl} {r x : Rl} {i : Nat} (h : x ∈ insAt R r i) : x = r ∨ x ∈ R := by
  unfold insAt at h
  rcases List.mem_append.mp h with z | z
  · exact .inr (List.mem_of_mem_take z)
  · rcases List.mem_cons.mp z with z | z
    · exact .inl z
    · exact .inr (List.mem_of_mem_drop z)
theorem mem_cut {R : List Rl} {x : Rl} {i : Nat} (h : x ∈ cutAt R i) : x ∈ R := by
  unfold cutAt at h
  rcases List.mem_append.mp h with z | z
  · exact List.mem_of_mem_take z
  · exact List.mem_of_mem_drop z
end Fk

set_option Elab.async false
set_option linter.all false
set_option maxRecDepth 100000
set_option maxHeartbeats 4000000
/-! Fk E: enumerate of a tuple and of a text. -/
namespace Fk
open PySem PySem.Spec PyProof.Rows L2

section
variable {prog : Program} {w : World} {A : Around} {E : Value → Shared → Prop} {s : Shared}
/-- enumerate(v): the iterator o of v, then the enumerate object -/
theorem enum_new {v : Value} {o : Obj} {B0 : Heap → Prop} (B : Begins v o B0) :
    Meets (Builtin.«enumerate.__new__» ⟨[.type "enumerate", v], []⟩) (fun _ R s => B0 s.heap ∧
      R (.ok (.ret (.ref (s.heap.push o).objs.size))) { s with heap := (s.heap.push o).push { cls := .type "enumerate", data := .fields #[.none, .bool false, .ref s.heap.objs.size, rawInt 0, .none, .none] } }) :=
  .of_wp fun prog w A R s h => by
    obtain ⟨hp, g, d, tk, os⟩ := s
    obtain ⟨h1, h⟩ := h
    have hsub := sub_enumerate
    have it1 : ∀ {A' : Around} {E : Value → Shared → Prop} {Q : Value → Shared → Prop}, Q (.ref hp.objs.size) ⟨hp.push o, g, d, tk, os⟩ → wpAny (model prog w) A' (pyIter v) Q E ⟨hp, g, d, tk, os⟩ :=
      fun q => B.iter prog w _ _ ⟨hp, g, d, tk, os⟩ _ h1 q
    wp_walk using it1
    refine wpAny_stack_any fun st => wpAny_pure ?_
    split
    · rename_i c _ _ _ _ _
      cases (c == Value.type "enumerate") <;> (wp_walk using it1; exact ⟨_, rfl, h⟩)
    · wp_walk using it1
      exact ⟨_, rfl, h⟩
theorem enum_call {v : Value} {o : Obj} {B0 : Heap → Prop} {Q : Value → Shared → Prop} (B : Begins v o B0) (h1 : B0 s.heap)
    (h : ∀ h', IsEnum h' (s.heap.objs.size + 1) s.heap.objs.size 0 .none → h'.get? s.heap.objs.size = some o → (∀ b o, s.heap.get? b = some o → h'.get? b = some o) → Q (.ref (s.heap.objs.size + 1)) { s with heap := h' }) :
    wpAny (model prog w) A (call (.type "enumerate") [v]) Q E s := by
  refine callType_new F.called_enumerate (by decide) (F.typeCall_enumerate_1 _) (F.newCall_enumerate_1 _) (fun obj => F.args_object_init_2 obj _) F.entry_enumerate_new (enum_new B) ⟨h1, ?_⟩
  have hz : (s.heap.push o).objs.size = s.heap.objs.size + 1 := Heap.size_push ..
  have he := Heap.get?_push_size (s.heap.push o) (o := { cls := .type "enumerate", data := .fields #[.none, .bool false, .ref s.heap.objs.size, rawInt 0, .none, .none] }) rfl
  show _ ∧ _
  rw [hz] at he ⊢
  exact ⟨⟨_, he, rfl⟩, h _ he (Heap.get?_push_of_some _ (Heap.get?_push_size _ B.free)) fun b u x => Heap.get?_push_of_some _ (Heap.get?_push_of_some _ x)⟩
end

/-- the tuple at a, its items in new pairs with their places -/
def ItT (K : PySem.W.Frag) (a : Addr) : It :=
  ⟨fun i H => ∃ (xs : List V) (x : V), SqT K H a xs ∧ xs[i]? = some x, fun i H v H' => ∃ T x, v = .ref T ∧ H T = none ∧ H' = upd H T (.tup [.int (i : Nat), x]) ∧ ∀ xs, SqT K H a xs → xs[i]? = some x, fun i H => ∃ xs : List V, SqT K H a xs ∧ xs.length = i⟩
/-- the signs of a text in new pairs with their places -/
def ItS (z : Str) : It :=
  ⟨fun i _ => i < z.cps.size, fun i H v H' => ∃ T c, v = .ref T ∧ H T = none ∧ H' = upd H T (.tup [.int (i : Nat), .str ⟨#[c]⟩]) ∧ z.cps[i]? = some c, fun i _ => z.cps.size = i⟩
theorem two_mem {b x y : Addr} (h : b ∈ [x, y]) : b = x ∨ b = y := by simpa using h
section
variable {P : Program} {w : World} {K : PySem.W.Frag} {elts : List Expr} {kk : Nat} {tpos : Pos}
/-- the end of a turn: the pair laid, the enumerate object as it was -/
theorem turn_pair {X : Cx} {pins : List (Addr × Obj)} {s : Shared} {σ : L2.St} {H : Hp} {E : Value → Shared → Prop} {e it : Addr} {i : Nat} {u : Value} {x : V} {h' : Heap} {tk : Nat} {R : Heap → Prop} (I : Inv X pins σ H s) (ru : RelV x u)
    (hel : e < s.heap.objs.size) (hil : it < s.heap.objs.size) (hf : ∀ b ∈ [e, it], FpOk X pins H b) (ho : IsEnumOut h' e it ((i : Int) + 1) u s.heap.objs.size)
    (hT : h'.get? s.heap.objs.size = some { cls := .type "tuple", data := .seq #[.int i tk, u] }) (hk : ∀ b o, b ≠ e → b ≠ it → s.heap.get? b = some o → h'.get? b = some o)
    (hR : ∀ h'', (∀ b o, b ≠ e → h'.get? b = some o → h''.get? b = some o) → R h'') :
    ∃ v, some (Value.ref s.heap.objs.size) = some v ∧ wpAny (model X.prog X.w) X.A (letOwnedTupleGo (.Tuple elts kk tpos) (.ref e) v) (fun _ s2 => Inv X pins σ (upd H s.heap.objs.size (.tup [.int (i : Nat), x])) s2 ∧
      (IsEnum s2.heap e it ((i : Int) + 1) u ∧ R s2.heap) ∧ ∀ b ∈ [e, it], upd H s.heap.objs.size (.tup [.int (i : Nat), x]) b = none) E { s with heap := h', toks := tk + 1 } := by
  refine ⟨_, rfl, wpAny_letOwnedTupleGo_enum (s := { s with heap := h', toks := tk + 1 }) ho fun h'' he' sb => ?_⟩
  have hT2 := (sb.2 _ (Nat.ne_of_gt hel)).trans hT
  have new : ObjOk X.prog X.w (upd H s.heap.objs.size (.tup [.int (i : Nat), x])) h'' s.heap.objs.size (.tup [.int (i : Nat), x]) :=
    ⟨by show 2 ≤ sizeLine; decide, [.int i tk, u], .cons ⟨_, rfl⟩ (.cons ru .nil), ⟨_, hT2, rfl, _, rfl⟩⟩
  refine ⟨I.turnedNew (t' := tk + 1) (ch := [e, it]) (fun b ob hb q => ?_) hf (Nat.le_refl _) new, ⟨he', hR h'' fun b o hb q => (sb.2 b hb).trans q⟩, fun b hb => ?_⟩
  · have n1 : b ≠ e := fun z => hb (by simp [z])
    have n2 : b ≠ it := fun z => hb (by simp [z])
    exact (sb.2 b n1).trans (hk b ob n1 n2 q)
  · have hlt : b < s.heap.objs.size := by
      rcases two_mem hb with z | z
      · rw [z]; exact hel
      · rw [z]; exact hil
    rw [upd_ne (Nat.ne_of_lt hlt)]
    exact (hf b hb).1
theorem turn_T (a e it : Addr) : Turn P w K (.Tuple elts kk tpos) (ItT K a) [e, it] e (fun i h => (∃ old, IsEnum h e it (i : Int) old) ∧ h.IsTupleIter it a i ∧ e ≠ it) where
  mem := by simp
  obj := fun i h st b hb => by
    obtain ⟨⟨old, he⟩, ⟨o, ho, _, hd⟩, _⟩ := st
    rcases two_mem hb with z | z
    · rw [z]; exact ⟨_, he, fun v q => nomatch q⟩
    · rw [z]; exact ⟨o, ho, fun v q => by rw [hd] at q; cases q⟩
  keep := fun i h h' st k => let ⟨⟨old, he⟩, hi, hne⟩ := st; ⟨⟨old, k e (by simp) _ he⟩, hi.at fun o q => k it (by simp) o q, hne⟩
  item := by
    intro X hP hw hK hc i pins s σ H E I hf st hg
    subst hP hw hK
    obtain ⟨⟨old, he⟩, hit, hne⟩ := st
    obtain ⟨xs, x, hq, hx⟩ := hg
    obtain ⟨its, rv, p, hz⟩ := I.tuple hq
    obtain ⟨u, hu, ru⟩ := rv.get hx
    have hlt : i < its.toArray.size := by
      obtain ⟨h1, _⟩ := List.getElem?_eq_some_iff.mp hu
      simpa using h1
    have nai : a ≠ it := fun z => by
      obtain ⟨o1, e1, c1, _⟩ := id p
      obtain ⟨o2, e2, c2, _⟩ := id hit
      rw [z, e2] at e1
      cases e1
      rw [c2] at c1
      exact absurd c1 (by decide)
    have nea : e ≠ a := fun z => by
      obtain ⟨o1, e1, c1, _⟩ := id p
      have e2 : s.heap.get? e = some _ := he
      rw [← z, e2] at e1
      cases e1
      have c2 : Value.type "enumerate" = Value.type "tuple" := c1
      exact absurd c2 (by decide)
    have D := Draws.tuple (prog := X.prog) (w := X.w) (A := X.A.in1) (I.ok.hd hc) it a nai its.toArray
    refine wpAny_pyNext_enum_itemD D he ⟨hit, p⟩ hlt hne (by simp [hne, nea]) fun x' h' tk hP ho hst hT hsz hk => ?_
    have ex : x' = u := by
      have h1 : its.toArray[i]? = some x' := hP
      rw [List.getElem?_toArray, hu] at h1
      exact (Option.some.inj h1).symm
    subst ex
    obtain ⟨v, ev, hv⟩ := turn_pair (elts := elts) (kk := kk) (tpos := tpos) (E := E) (R := fun h => h.IsTupleIter it a (i + 1)) I ru (Heap.lt_size he) (by obtain ⟨o, q, _⟩ := id hit; exact Heap.lt_size q) hf ho hT hk fun h'' k => hst.1.at fun o q => k it o (Ne.symm hne) q
    refine ⟨v, ev, wpAny_mono hv (fun _ s2 h2 => ?_) fun _ _ z => z⟩
    obtain ⟨I2, ⟨he2, hr⟩, hn⟩ := h2
    have e1 : ((i + 1 : Nat) : Int) = (i : Int) + 1 := by omega
    rw [← e1] at he2
    exact ⟨.ref s.heap.objs.size, _, I2, by cases ev; rfl, ⟨_, x, rfl, I.hok.fresh (Nat.le_refl _), rfl, fun ys hy => by rw [I.tuple_inj hy hq]; exact hx⟩, ⟨⟨_, he2⟩, hr, hne⟩, hn⟩
  done := by
    intro X hP hw hK hc i pins s σ H E I hf st hg
    subst hP hw hK
    obtain ⟨⟨old, he⟩, hit, hne⟩ := st
    obtain ⟨xs, hq, hx⟩ := hg
    obtain ⟨its, rv, p, hz⟩ := I.tuple hq
    obtain ⟨f0, f1, f2, f3, f4, f5⟩ := hf it (by simp)
    have hl : its.toArray.size = i := by
      rw [List.size_toArray, ← rv.length, hx]
    have nai : a ≠ it := fun z => by
      obtain ⟨o1, e1, c1, _⟩ := id p
      obtain ⟨o2, e2, c2, _⟩ := id hit
      rw [z, e2] at e1
      cases e1
      rw [c2] at c1
      exact absurd c1 (by decide)
    have D := Draws.tuple (prog := X.prog) (w := X.w) (A := X.A.in1) (I.ok.hd hc) it a nai its.toArray
    exact wpAny_pyNext_enum_endD D he ⟨by rw [hl]; exact hit, p⟩ fun h' k => ⟨rfl, I.turned (t' := s.toks) (fun b ob hb q => k b ob hb q) f0 f1 f3 f4 f5⟩
  self := fun A i s Q E st h => let ⟨⟨_, he⟩, _⟩ := st; wpAny_pyIter_enum he h
theorem strIter_at {h h' : Heap} {it : Addr} {ty : String} {z : Str} {t : Tok} {i : Nat} (x : h.IsStrIter it ty z t i) (k : ∀ o, h.get? it = some o → h'.get? it = some o) : h'.IsStrIter it ty z t i := by
  obtain ⟨o, e, r⟩ := x
  exact ⟨o, k o e, r⟩
theorem turn_S (z : Str) (t : Tok) (e it : Addr) : Turn P w K (.Tuple elts kk tpos) (ItS z) [e, it] e (fun i h => (∃ old, IsEnum h e it (i : Int) old) ∧ h.IsStrIter it (strIterType z) z t i ∧ e ≠ it) where
  mem := by simp
  obj := fun i h st b hb => by
    obtain ⟨⟨old, he⟩, ⟨o, ho, _, hd⟩, _⟩ := st
    rcases two_mem hb with z | z
    · rw [z]; exact ⟨_, he, fun v q => nomatch q⟩
    · rw [z]; exact ⟨o, ho, fun v q => by rw [hd] at q; cases q⟩
  keep := fun i h h' st k => let ⟨⟨old, he⟩, hi, hne⟩ := st; ⟨⟨old, k e (by simp) _ he⟩, strIter_at hi fun o q => k it (by simp) o q, hne⟩
  item := by
    intro X hP hw hK hc i pins s σ H E I hf st hg
    subst hP hw hK
    obtain ⟨⟨old, he⟩, hit, hne⟩ := st
    have D := Draws.text (prog := X.prog) (w := X.w) (A := X.A.in1) (I.ok.hd hc) it z t
    refine wpAny_pyNext_enum_itemD D he hit hg hne (by simp [hne]) fun x' h' tk hP ho hst hT hsz hk => ?_
    obtain ⟨c, u, hcz, eu⟩ := hP
    obtain ⟨v, ev, hv⟩ := turn_pair (elts := elts) (kk := kk) (tpos := tpos) (E := E) (x := .str ⟨#[c]⟩) (R := fun h => h.IsStrIter it (strIterType z) z t (i + 1)) I ⟨u, eu⟩ (Heap.lt_size he) (by obtain ⟨o, q, _⟩ := id hit; exact Heap.lt_size q) hf ho hT hk fun h'' k => strIter_at hst fun o q => k it o (Ne.symm hne) q
    refine ⟨v, ev, wpAny_mono hv (fun _ s2 h2 => ?_) fun _ _ z => z⟩
    obtain ⟨I2, ⟨he2, hr⟩, hn⟩ := h2
    have e1 : ((i + 1 : Nat) : Int) = (i : Int) + 1 := by omega
    rw [← e1] at he2
    exact ⟨.ref s.heap.objs.size, _, I2, by cases ev; rfl, ⟨_, c, rfl, I.hok.fresh (Nat.le_refl _), rfl, hcz⟩, ⟨⟨_, he2⟩, hr, hne⟩, hn⟩
  done := by
    intro X hP hw hK hc i pins s σ H E I hf st hg
    subst hP hw hK
    obtain ⟨⟨old, he⟩, hit, hne⟩ := st
    obtain ⟨f0, f1, f2, f3, f4, f5⟩ := hf it (by simp)
    have D := Draws.text (prog := X.prog) (w := X.w) (A := X.A.in1) (I.ok.hd hc) it z t
    have eg : z.cps.size = i := hg
    exact wpAny_pyNext_enum_endD D he (by rw [eg]; exact hit) fun h' k => ⟨rfl, I.turned (t' := s.toks) (fun b ob hb q => k b ob hb q) f0 f1 f3 f4 f5⟩
  self := fun A i s Q E st h => let ⟨⟨_, he⟩, _⟩ := st; wpAny_pyIter_enum he h
end
def iEnT (K : PySem.W.Frag) (ta : TA) : TI := fun σ H R => ta σ H fun vs H1 => ∃ a xs, vs = [.ref a] ∧ SqT K H1 a xs ∧ R (ItT K a) H1
def iEnS (ta : TA) : TI := fun σ H R => ta σ H fun vs H1 => ∃ z, vs = [.str z] ∧ R (ItS z) H1
section
variable {X : Cx} {e : Expr} {ta : TA} {p pos tpos : Pos} {elts : List Expr} {kk : Nat}
theorem two_fresh {pins : List (Addr × Obj)} {σ : L2.St} {H : Hp} {s : Shared} (I : Inv X pins σ H s) : ∀ b ∈ [s.heap.objs.size + 1, s.heap.objs.size], FpOk X pins H b := fun b hb => by
  have hle : s.heap.objs.size ≤ b := by
    rcases two_mem hb with z | z
    · rw [z]; exact Nat.le_add_right _ _
    · rw [z]; exact Nat.le_refl _
  exact I.fpOk hle (I.hok.fresh hle)
theorem pi_enumT (hg : Gl X "enumerate") (hm : X.mg "enumerate" = none) (ha : PA X [e] ta) (hs : starEach [e] X.env = [(false, eval e X.env)] := by rfl) :
    PI X (.Tuple elts kk tpos) (.Call (.Name "enumerate" p) [e] [] pos) (iEnT X.K ta) := by
  refine ⟨fun pins s σ H R I h => ?_⟩
  refine Call_ (ld_blt I hg hm boot_enumerate (PyProof.Rows.callWith_type1 (thn (ha.run pos pins s σ H _ I h) fun us s1 ⟨vs, H1, I1, r1, q1⟩ => ?_) hs rfl))
  obtain ⟨a, xs, ex, hq, q⟩ := q1
  subst ex
  obtain ⟨u, rfl, ru⟩ := vals1 r1
  obtain rfl : u = Value.ref a := ru
  obtain ⟨its, rv, p', hz⟩ := I1.tuple hq
  refine enum_call (begins_tuple a its.toArray) (show s1.heap.IsTuple a its.toArray from p') fun h' he hit hk => wpAny_pyIter_enum he ?_
  exact ⟨_, _, _, _, H1, rfl, I1.kept (t' := s1.toks) hk, turn_T a (s1.heap.objs.size + 1) s1.heap.objs.size, ⟨⟨.none, he⟩, ⟨_, hit, rfl, rfl⟩, Nat.succ_ne_self _⟩, two_fresh I1, q⟩
theorem pi_enumS (hg : Gl X "enumerate") (hm : X.mg "enumerate" = none) (ha : PA X [e] ta) (hs : starEach [e] X.env = [(false, eval e X.env)] := by rfl) :
    PI X (.Tuple elts kk tpos) (.Call (.Name "enumerate" p) [e] [] pos) (iEnS ta) := by
  refine ⟨fun pins s σ H R I h => ?_⟩
  refine Call_ (ld_blt I hg hm boot_enumerate (PyProof.Rows.callWith_type1 (thn (ha.run pos pins s σ H _ I h) fun us s1 ⟨vs, H1, I1, r1, q1⟩ => ?_) hs rfl))
  obtain ⟨z, ex, q⟩ := q1
  subst ex
  obtain ⟨u, rfl, t, rfl⟩ := vals1 r1
  refine enum_call (begins_text z t) trivial fun h' he hit hk => wpAny_pyIter_enum he ?_
  exact ⟨_, _, _, _, H1, rfl, I1.kept (t' := s1.toks) hk, turn_S z t (s1.heap.objs.size + 1) s1.heap.objs.size, ⟨⟨.none, he⟩, ⟨_, hit, rfl, rfl⟩, Nat.succ_ne_self _⟩, two_fresh I1, q⟩
end
end Fk

set_option Elab.async false
set_option linter.all false
set_option maxRecDepth 100000
set_option maxHeartbeats 4000000
/-! Fk G: defs that are called while no repr is under way (A.guards = some []): what repr gives there. The layer's own promise (FnOk) is silent on guards; this is the same promise with that premise. -/
namespace Fk
open PySem PySem.Spec PyProof.Rows L2

structure FnG (P : Program) (w : World) (K : PySem.W.Frag) (mg : Str → Option Value) (base : Heap) (k : Nat) (f : Addr) (fd : FuncData) (ps : List Str) (sp : Sp) : Prop where
  arity : ∀ vs H Q E, sp vs H Q E → vs.length = ps.length
  go : ∀ (A : Around), A.guards = some [] → Room k A → ∀ (outer : List Env) (s : Shared) (H : Hp) (args : Args) (us : List Value) (vs : List V) (Q : VK) (E : XK), Env0 P w K mg base A outer s H → BindsTo s fd args (ps.zip us) → Vals vs us → sp vs H Q E →
    codeAny (model P w) A (.call (.ref f) args) (CR CX0 outer P w H s Q E) s
/-- a def's body with that premise -/
theorem fnG {P : Program} {w : World} {K : PySem.W.Frag} {mg : Str → Option Value} {base : Heap} {k : Nat} {f : Addr} {x qual : Str} {params : Arguments} {body : List Stmt} {scope : Scope} {dvs : List V} {kws : List (Str × V)} {fd : FuncData} {N ps : List Str} {sp : Sp}
    (F : FunD K x qual params body scope dvs kws f fd) (S : FnScope N ps scope) (len : ∀ vs H Q E, sp vs H Q E → vs.length = ps.length)
    (hb : ∀ (cdv : Value) (A : Around) (outer : List Env) (s : Shared) (H : Hp) (vs : List V) (Q : VK) (E : XK), A.guards = some [] → Room k (A.deeper (envOfC qual scope s.heap.objs.size f cdv)) → sp vs H Q E →
      ∃ t, PSs (cxOf CX0 P w K mg base N qual scope f cdv A outer s H E) body t ∧ t { nx := fun _ H' => Q .non H', rt := Q } (start N vs) H) : FnG P w K mg base (k + 1) f fd ps sp := by
  obtain ⟨oc, od, dV, kV, doc, pm, an, cdv, ct, osl, efd, lk, hcd, _, _⟩ := F.ex
  subst efd
  refine ⟨len, fun A gA hr outer s H args us vs Q E e0 hbd rv hsp => ?_⟩
  have inS : K.In s.heap := e0.mod.kin.keeps fun b o e => (e0.bs b o e).1
  have room : s.heap.NoLimit := e0.mod.nolimit.keeps fun b o e => (e0.bs b o e).1
  have kinds : ∀ y ∈ ps.zip us, scope.names.lookup y.1 = some .local ∨ (scope.names.lookup y.1 = some .cell ∧ ((cellsFrom (s.heap.objs.size + 1) scope.names []).lookup y.1).isSome = true) := by
    rintro ⟨y, v⟩ hy
    exact (S.par y (List.of_mem_zip hy).1).imp id fun q => ⟨q, PySem.W.cellsFrom_some _ _ _ (.inl q)⟩
  obtain ⟨t, ht, hq⟩ := hb cdv A outer s H vs Q E gA (hr.deeper _) hsp
  refine codeAny_call_function hr.depth (inS _ _ lk) rfl S.co S.gen rfl (PySem.W.codeRec_of inS hcd) (hbd _ _ _ _ ?_)
  refine wpAny_newFunctionEnv_cells S.kind kinds fun env he s1 x1 => ?_
  subst he
  refine ⟨room.keeps x1.toInCall.keep, codeAny_func (wpAny_mono (ht.run [] s1 (start N vs) H _ (inv_start S hr.hd e0 (len _ _ _ _ hsp) rv x1) hq) (fun fl s2 h2 => ?_) fun _ _ h2 => h2)⟩
  cases fl with
  | ret u =>
    obtain ⟨v, σ', H', J, r2, q2⟩ := h2
    exact ⟨v, H', J.os, J.bare, J.base, J.hok, r2, q2⟩
  | next =>
    obtain ⟨σ', H', J, q2⟩ := h2
    exact ⟨V.non, H', J.os, J.bare, J.base, J.hok, rfl, q2⟩
  | brk => exact h2.elim fun _ h => h.elim fun _ h => h.2.elim
  | cont => exact h2.elim fun _ h => h.elim fun _ h => h.2.elim

def HasG (P : Program) (w : World) (K : PySem.W.Frag) (mg : Str → Option Value) (base : Heap) (x : Str) (k : Nat) (sp : Sp) : Prop :=
  ∃ f fd ps, FnG P w K mg base k f fd ps sp ∧ mg x = some (.ref f) ∧ PySem.W.keepIn K (.ref f) = true ∧ Binds K fd ps []
section
variable {P : Program} {w : World} {K : PySem.W.Frag} {mg : Str → Option Value} {base : Heap}
theorem hasG_of {x : Str} {st : Stmt} {N ps : List Str} {k : Nat} {sp : Sp} (D : Def K mg x st [] []) (S : FnScope N ps (defScope st)) (len : ∀ vs H Q E, sp vs H Q E → vs.length = ps.length)
    (bnd : ∀ (kV doc pm : Value) (an : Option Addr) (cdv ct : Value) (us : List Value), us.length = ps.length → bindArgs (PySem.W.fnOf x x (defArgs st) (defBody st) (defScope st) .none kV doc pm an cdv ct) ⟨us, []⟩ = pure (ps.zip us))
    (body : ∀ (f : Addr) (cdv : Value) (A : Around) (outer : List Env) (s : Shared) (H : Hp) (vs : List V) (Q : VK) (E : XK), (A.deeper (envOfC x (defScope st) s.heap.objs.size f cdv)).guards = some [] → Room k (A.deeper (envOfC x (defScope st) s.heap.objs.size f cdv)) → sp vs H Q E →
      ∃ t, PSs (cxOf CX0 P w K mg base N x (defScope st) f cdv A outer s H E).nox (defBody st) t ∧ t { nx := fun _ H' => Q .non H', rt := Q } (start N vs) H) : HasG P w K mg base x (k + 1) sp := by
  obtain ⟨f, fd, F, hm⟩ := D
  refine ⟨f, fd, ps, fnG F S len (fun cdv A outer s H vs Q E gA hr h => ?_), hm, F.kp, F.bindsN bnd⟩
  obtain ⟨t, h1, h2⟩ := body f cdv A outer s H vs Q E gA hr h
  exact ⟨t, h1.nox, h2⟩
end
section
variable {X : Cx} {x : Str} {k : Nat} {sp : Sp} {p pos : Pos}
theorem run_hasG {f : Addr} {fd : FuncData} {ps : List Str} {pins : List (Addr × Obj)} {σ : L2.St} {H : Hp} {s : Shared} {Q : VK} {us : List Value} {vs : List V} (F : FnG X.prog X.w X.K X.mg X.base k f fd ps sp) (gA : X.A.guards = some []) (hr : Room k X.A) (hb : Binds X.K fd ps [])
    (I : Inv X pins σ H s) (rv : Vals vs us) (h : sp vs H Q E0) : wpAny (model X.prog X.w) X.A (call (.ref f) us) (EP X pins σ Q) X.xe s := by
  have el : (us ++ ([] : List Value)).length = ps.length := by
    rw [List.append_nil, ← rv.length, F.arity _ _ _ _ h]
  have bd := hb s us I.kIn el
  rw [List.append_nil] at bd
  refine wpAny_call (codeAny_mono (F.go X.A gA hr X.stack s H ⟨us, []⟩ us vs Q E0 I.env0 bd rv h) fun r s2 h2 => ?_)
  match r, h2 with
  | .ok (.ret u), h2 => exact I.after h2
  | .ok .next, h2 => exact h2.elim
  | .ok .brk, h2 => exact h2.elim
  | .ok .cont, h2 => exact h2.elim
  | .error _, h2 => exact h2.elim
theorem pe_hasG {e : Expr} {es : List Expr} {t : TA} (h : HasG X.prog X.w X.K X.mg X.base x k sp) (gA : X.A.guards = some []) (hr : Room k X.A) (hg : Gl X x) (ha : PA X (e :: es) t)
    (hdb : (x == ("__debug__" : Str)) = false := by decide) (he : starEach (e :: es) X.env = (false, eval e X.env) :: starEach es X.env := by rfl) (hpl : (backTo pos (starEach es X.env)).any (·.1) = false := by rfl) :
    PE X (.Call (.Name x p) (e :: es) [] pos) (tCall sp [] E0 t) := by
  obtain ⟨f, fd, ps, F, hm, hk, hb⟩ := h
  refine ⟨fun pins s σ H Q I hw => wpAny_Call_Name_kw (ld_glob I hg hm ?_ hdb)⟩
  refine PySem.W.callWith_K (h₀ := X.base) I.ok.mod.kin hk (thn (ha.run pos pins s σ H _ I hw) fun us s1 ⟨vs, H1, I1, r, q⟩ => ⟨I1.kIn, ?_⟩) he hpl
  have q' : sp (vs ++ []) H1 Q E0 := q
  rw [List.append_nil] at q'
  exact run_hasG F gA hr hb I1 r q'
theorem pe_hasG0 (h : HasG X.prog X.w X.K X.mg X.base x k sp) (gA : X.A.guards = some []) (hr : Room k X.A) (hg : Gl X x) (hdb : (x == ("__debug__" : Str)) = false := by decide) :
    PE X (.Call (.Name x p) [] [] pos) (tCall sp [] E0 tNil) := by
  obtain ⟨f, fd, ps, F, hm, hk, hb⟩ := h
  refine ⟨fun pins s σ H Q I hw => wpAny_Call_Name_kw (ld_glob I hg hm ?_ hdb)⟩
  exact PySem.W.callWith_K0 (first := []) I.kIn hk (run_hasG (us := []) (vs := []) F gA hr hb I .nil hw)
end

/-! ### repr of data -/
def rRepr (K : PySem.W.Frag) : List V → Hp → VK → Prop := fun xs H Q => ∃ (a : Addr) (d : PyData), xs = [.ref a] ∧ Dp K H (.ref a) d ∧ d.showable = true ∧ d.hasDict = false ∧ d.depth ≤ 60 ∧ d.shown.length ≤ sizeLine ∧ Q (.str d.shown) H
theorem call_repr {X : Cx} (gA : X.A.guards = some []) (hu : X.A.units + 64 < cLine) : CallR X (.builtin "repr") (rRepr X.K) := by
  intro pins s σ H xs us Q I r h
  obtain ⟨a, d, rfl, hd, hs, hn, hp, hz, q⟩ := h
  obtain ⟨u, rfl, ru⟩ := vals1 r
  obtain ⟨as, rd⟩ := Dp.reads I d (.ref a) u hd ru
  obtain rfl : u = Value.ref a := ru
  exact repr_of_reads' rd hs (PyData.noDict_hsm hn) gA (by omega) (fun b o e => e) (fun h' t tk k => ⟨.str d.shown, H, I.kept k, ⟨t, rfl⟩, q⟩) hz
end Fk

set_option Elab.async false
set_option linter.all false
set_option maxRecDepth 100000
set_option maxHeartbeats 8000000
/-! Fk S: sets of texts: set(list of texts), and sorted of such a set. A set is told by a row ks of its members, each once, in no order. -/
namespace Fk
open PySem PySem.Spec PyProof.Rows L2

def txOf (e : Int × Value) : Str := match e.2 with | .str k _ => k | _ => Str.empty
def IsTx (w : World) (e : Int × Value) : Prop := ∃ k tk, e.2 = Value.str k tk ∧ e.1 = hashStr w k
def SetX (w : World) (h : Heap) (a : Addr) (ks : List Str) : Prop :=
  ∃ o es ep t, h.get? a = some o ∧ o.ExactSet ∧ o.data = .set es ep t ∧ (∀ e ∈ es.toList, IsTx w e) ∧ (es.toList.map txOf).Perm ks ∧ ks.Nodup ∧ es.size < scanBound ∧ t.fits es.size = true ∧ Ris t.place.toList ∧
    (w.params.followText "set-order" = true ∨ t.led = true)
section
variable {P : Program} {w : World} {h h' : Heap} {a : Addr} {ks : List Str}
theorem SetX.keep (R : SetX w h a ks) (k : ∀ o, h.get? a = some o → h'.get? a = some o) : SetX w h' a ks := by
  obtain ⟨o, es, ep, t, ho, r⟩ := R
  exact ⟨o, es, ep, t, k o ho, r⟩
theorem isTx_elems {l : List (Int × Value)} (g : ∀ e ∈ l, IsTx w e) : ElemsOf (PySem.strKind P w) l := fun e he => by
  obtain ⟨k, tk, h1, h2⟩ := g e he
  rw [h1]
  exact ⟨⟨k, strKind_is P w k tk, h2⟩, rfl⟩
theorem isTx_is {e : Int × Value} (g : IsTx w e) (k : Str) : (PySem.strKind P w).is k e.2 = true ↔ txOf e = k := by
  obtain ⟨k0, tk, h1, _⟩ := g
  unfold txOf
  rw [h1]
  constructor
  · intro q
    exact (PySem.strKind P w).inj (.str k0 tk) k0 k (strKind_is P w k0 tk) q
  · intro q
    have q' : k0 = k := q
    rw [← q']
    exact strKind_is P w k0 tk
theorem isTx_mem {l : List (Int × Value)} (g : ∀ e ∈ l, IsTx w e) (k : Str) : k ∈ l.map txOf ↔ ∃ e ∈ l, (PySem.strKind P w).is k e.2 = true := by
  rw [List.mem_map]
  exact ⟨fun ⟨e, he, q⟩ => ⟨e, he, (isTx_is (g e he) k).2 q⟩, fun ⟨e, he, q⟩ => ⟨e, he, (isTx_is (g e he) k).1 q⟩⟩
end
section
variable {P : Program} {w : World} {A : Around} {E : Value → Shared → Prop} {s : Shared} {a : Addr} {ks : List Str}
/-- what add does behind the search: the entries are stored, and laid anew where the table is full -/
theorem setX_stored {g : Bool → Sem Unit} (hg : ∀ (b : Bool) (s₁ : Shared) (Q' : Unit → Shared → Prop), Q' () s₁ → wpAny (model P w) A (g b) Q' E s₁)
    {o : Obj} {es : Array (Int × Value)} {ep : Nat} {t : SetTable} (ho : s.heap.get? a = some o) (hex : o.ExactSet) (hd : o.data = .set es ep t) {es1 : Array (Int × Value)} {t2 : SetTable} {ks1 : List Str}
    (g1 : ∀ e ∈ es1.toList, IsTx w e) (p1 : (es1.toList.map txOf).Perm ks1) (nd1 : ks1.Nodup) (hb1 : es1.size < scanBound) (hf2 : t2.fits es1.size = true) (hr : Ris t2.place.toList) (hl : w.params.followText "set-order" = true ∨ t2.led = true)
    {wasDummy : Bool} {R : Option Bool → Shared → Prop} (hR : ∀ h', Heap.SameBut a s.heap h' → SetX w h' a ks1 → R (some true) { s with heap := h' }) :
    wpAny (model P w) A (do
        storeSet a es1 t2
        if (!wasDummy && t2.tooFull) = true then do
            g (relayAll t2 es1 (SetTable.grown es1.size)).2.2
            storeSet a (relayAll t2 es1 (SetTable.grown es1.size)).1 (relayAll t2 es1 (SetTable.grown es1.size)).2.1
            pure (some true)
          else pure (some true)) R E s := by
  refine wpAny_bind (wpAny_storeSet_of ho hd ?_ (fits_of_scanBound hb1))
  have ho1 := store_at (es' := es1) (t' := t2) ho hd
  have sb1 := Heap.SameBut.update s.heap a (Obj.putSet es1 t2)
  split
  · have q1 := relayAll_perm t2 es1 (SetTable.grown es1.size)
    have q2 := relayAll_fits t2 es1 (SetTable.grown es1.size)
    have q3 := relayAll_ris t2 es1 (SetTable.grown es1.size)
    have q4 := relayAll_led t2 es1 (SetTable.grown es1.size)
    generalize relayAll t2 es1 (SetTable.grown es1.size) = Z at q1 q2 q3 q4 ⊢
    obtain ⟨es2, t3, gave⟩ := Z
    dsimp only at q1 q2 q3 q4 ⊢
    have sz : es2.size = es1.size := by
      have z := q1.length_eq
      rwa [Array.length_toList, Array.length_toList] at z
    refine wpAny_bind (hg _ _ _ (wpAny_bind (wpAny_storeSet_of ho1 rfl ?_ (fits_of_scanBound (by rw [sz]; exact hb1)))))
    have ho2 := store_at (es' := es2) (t' := t3) ho1 rfl
    refine wpAny_pure (hR _ (sb1.trans (Heap.SameBut.update _ a _)) ⟨_, es2, _, t3, ho2, hex, rfl, fun e he => g1 e (q1.mem_iff.mp he), (q1.map txOf).trans p1, nd1, by rw [sz]; exact hb1, q2, q3, hl.imp id fun z => by rw [q4]; exact z⟩)
  · exact wpAny_pure (hR _ sb1 ⟨_, es1, _, t2, ho1, hex, rfl, g1, p1, nd1, hb1, hf2, hr, hl⟩)
theorem gave_way (b : Bool) {s₁ : Shared} {Q' : Unit → Shared → Prop} (q : Q' () s₁) : wpAny (model P w) A (match b with | true => rule "set.scan.the-table-gave-way" | false => pure ()) Q' E s₁ := by
  cases b
  · exact wpAny_pure q
  · exact wpAny_rule q
/-- a text is added -/
theorem setX_add {k : Str} {tk : Tok} {Q : Bool → Shared → Prop} (R : SetX w s.heap a ks) (room : ks.length + 1 < scanBound)
    (hQ : ∀ b h' ks', Heap.SameBut a s.heap h' → SetX w h' a ks' → (∀ z, z ∈ ks' ↔ z = k ∨ z ∈ ks) → ks'.length ≤ ks.length + 1 → Q b { s with heap := h' }) :
    wpAny (model P w) A (setAddHashed a (.str k tk) ((PySem.strKind P w).hash k)) Q E s := by
  obtain ⟨o, es, ep, t, ho, hex, hd, g, pm, nd, hb, hf, hr, hl⟩ := R
  have hel : ElemsOf (PySem.strKind P w) es.toList := isTx_elems g
  have hsc : (Value.str k tk).scannable = true := rfl
  have szn : es.size = ks.length := by
    have z := pm.length_eq
    rwa [List.length_map, Array.length_toList] at z
  unfold setAddHashed setAddHashedIn
  refine wpAny_holding (wpAny_bind (wpAny_setState_of ho hd hf ?_))
  dsimp only
  rw [byScan_of hsc hb hel]
  simp only [↓reduceIte]
  unfold setAddByScan
  refine wpAny_bind (wpAny_bind (wpAny_rule (wpAny_bind (wpAny_setScan_of (strKind_is P w k tk) ho hd hf hel ?_))))
  cases hfi : List.findIdx? (fun e => (PySem.strKind P w).is k e.2) es.toList with
  | some j =>
    dsimp only
    obtain ⟨hj, pj, _⟩ := List.findIdx?_eq_some_iff_getElem.mp hfi
    have hk : k ∈ ks := pm.mem_iff.mp ((isTx_mem (P := P) g k).2 ⟨es.toList[j], List.getElem_mem hj, pj⟩)
    refine wpAny_pure (wpAny_pure (hQ _ s.heap ks (Heap.SameBut.refl a s.heap) ⟨o, es, ep, t, ho, hex, hd, g, pm, nd, hb, hf, hr, hl⟩ (fun z => ⟨.inr, fun q => q.elim (fun e => by rw [e]; exact hk) id⟩) (Nat.le_succ _)))
  | none =>
    dsimp only
    have hk : k ∉ ks := fun z => by
      obtain ⟨e, he, q⟩ := (isTx_mem (P := P) g k).1 (pm.mem_iff.mpr z)
      have c := List.findIdx?_eq_none_iff.mp hfi e he
      rw [q] at c
      cases c
    have q1 := layNew_perm t es ((PySem.strKind P w).hash k) (.str k tk)
    have q2 := layNew_fits t es ((PySem.strKind P w).hash k) (.str k tk)
    have q3 := layNew_ris t es ((PySem.strKind P w).hash k) (.str k tk) hr
    have q4 := layNew_led t es ((PySem.strKind P w).hash k) (.str k tk)
    generalize layNew t es ((PySem.strKind P w).hash k) (.str k tk) = Z at q1 q2 q3 q4 ⊢
    obtain ⟨es1, t1, wasDummy, gave⟩ := Z
    dsimp only at q1 q2 q3 q4 ⊢
    rw [Array.toList_push] at q1
    have q5 : es1.toList.Perm (((PySem.strKind P w).hash k, Value.str k tk) :: es.toList) := q1.trans (List.perm_append_singleton _ _)
    have g1 : ∀ e ∈ es1.toList, IsTx w e := fun e he => by
      rcases List.mem_cons.mp (q5.mem_iff.mp he) with z | z
      · rw [z]; exact ⟨k, tk, rfl, rfl⟩
      · exact g e z
    have pk : (es1.toList.map txOf).Perm (k :: ks) := (q5.map txOf).trans (pm.cons k)
    have nd1 : (k :: ks).Nodup := List.nodup_cons.mpr ⟨hk, nd⟩
    have sz : es1.size = ks.length + 1 := by
      have z := pk.length_eq
      rwa [List.length_map, Array.length_toList, List.length_cons] at z
    have hb1 : es1.size < scanBound := by rw [sz]; exact room
    have hled : w.params.followText "set-order" = true ∨ t1.led = true := hl.imp id fun z => by rw [q4]; exact z
    refine wpAny_bind (gave_way _ ?_)
    have fin : ∀ (b : Bool) h', Heap.SameBut a s.heap h' → SetX w h' a (k :: ks) → Q b { s with heap := h' } := fun b h' sb r => hQ b h' _ sb r (fun z => List.mem_cons) (Nat.le_refl _)
    split
    · refine wpAny_bind ?_
      rw [hashByValue_scannable 8 hsc]
      refine wpAny_pure ?_
      refine setX_stored (fun b s₁ Q' q => gave_way b q) ho hex hd g1 pk nd1 hb1 ?_ ?_ ?_ fun h' sb r => ?_
      · first | (split <;> first | exact q2 | exact SetTable.fits_plain_off q2) | exact q2
      · first | (split <;> exact q3) | exact q3
      · first | (split <;> exact hled) | exact hled
      · dsimp only
        exact wpAny_pure (fin _ h' sb r)
    · refine wpAny_bind (wpAny_pure ?_)
      simp only [↓reduceIte]
      refine setX_stored (fun b s₁ Q' q => gave_way b q) ho hex hd g1 pk nd1 hb1 q2 q3 hled fun h' sb r => ?_
      dsimp only
      exact wpAny_pure (fin _ h' sb r)
abbrev set0 (w : World) : Obj := { cls := .type "set", dict := none, data := .set #[] 0 (.fresh 0 0 (!w.params.followText "set-order")) }
theorem setX_fresh {h : Heap} (ho : h.get? a = some (set0 w)) : SetX w h a [] := by
  refine ⟨_, #[], 0, _, ho, ⟨rfl, rfl, rfl⟩, rfl, fun e he => ?_, List.Perm.refl _, List.nodup_nil, by decide, by rfl, List.Pairwise.nil, ?_⟩
  · simp at he
  · show _ ∨ (!w.params.followText "set-order") = true
    cases w.params.followText "set-order"
    · exact .inr rfl
    · exact .inl rfl
/-- the loop of set(..) over any walk of texts -/
theorem setX_update {I : Addr} {fp wr : List Addr} {G : Array GenState → Array GenState → Prop} {n : Nat} {Pv : Nat → Value → Prop} {St : Nat → Shared → Prop} {R : Result → Shared → Prop}
    (W : WalksS P w A.in1 I fp wr G n Pv St) (S : Addr) (hSf : S ∉ fp) (xs : List Str) (hn : n = xs.length) (hb : xs.length + 1 < scanBound) (hval : ∀ i v, Pv i v → ∃ k t, xs[i]? = some k ∧ v = .str k t) :
    ∀ (k i : Nat) (s : Shared), n - i = k → i ≤ n → St i s → (∃ ks, ks.length ≤ i ∧ SetX w s.heap S ks ∧ ∀ z, z ∈ ks ↔ z ∈ xs.take i) →
      (∀ s' ks, Moved (S :: wr) G s s' → ks.length ≤ n → SetX w s'.heap S ks → (∀ z, z ∈ ks ↔ z ∈ xs) → R (.ok (.ret .none)) s') →
      codeAny (model P w) A (.builtin "set.update.loop" ⟨[.ref S, .ref I], []⟩) R s := by
  have hSw : S ∉ wr := fun h => hSf (W.sub _ h)
  have hsub : ∀ b ∈ wr, b ∈ S :: wr := fun b hb => List.mem_cons_of_mem _ hb
  intro k
  induction k with
  | zero =>
    intro i s hk hi hst ⟨ks, hc, hS, hm⟩ hR
    have hin : i = n := by omega
    subst hin
    refine codeAny_builtin F.entry_set_update_loop ?_
    rw [Around.under_plainId F.plain_set_update_loop _]
    show wpAny _ A.in1 (pyNext (.ref I) >>= _) _ _ s
    refine wpAny_bind (W.done s _ _ hst fun s' mv => ?_)
    show wpAny _ A.in1 (ret Value.none) _ _ s'
    rw [List.take_of_length_le (Nat.le_of_eq hn.symm)] at hm
    exact wpAny_pure (hR s' ks (mv.mono hsub) hc (hS.keep fun o e => mv.heap S o hSw e) hm)
  | succ k ih =>
    intro i s hk hi hst ⟨ks, hc, hS, hm⟩ hR
    have hlt : i < n := by omega
    refine codeAny_builtin F.entry_set_update_loop ?_
    rw [Around.under_plainId F.plain_set_update_loop _]
    show wpAny _ A.in1 (pyNext (.ref I) >>= _) _ _ s
    refine wpAny_bind (W.item i s _ _ hlt hst fun v s' hP hst' mv => ?_)
    obtain ⟨z, t, hz, rfl⟩ := hval i v hP
    have hS' : SetX w s'.heap S ks := hS.keep fun o e => mv.heap S o hSw e
    show wpAny _ A.in1 (holding [Value.str z t] (setAdd S (.str z t)) >>= _) _ _ s'
    refine wpAny_bind (wpAny_holding ?_)
    unfold setAdd
    refine wpAny_holding (wpAny_bind ((PySem.strKind P w).pyHash (k := z) (strKind_is _ _ _ _) ?_))
    refine setX_add (s := { s' with toks := s'.toks + 1 }) hS' (by omega) fun bb h' ks' hsb hS2 hm2 hl2 => ?_
    refine wpAny_pure ⟨plainId_quiet F.plain_set_update_loop _, ih (i + 1) _ (by omega) hlt (W.frame _ s' _ _ hst' (Nat.le_succ _) fun b hb o e => ?_) ⟨ks', by omega, hS2, fun y => ?_⟩ fun s'' ks2 mv2 hc2 hS3 hm3 => ?_⟩
    · rw [hsb.2 b (fun h : b = S => hSf (by rw [← h]; exact hb))]; exact e
    · rw [hm2 y, hm y, List.take_add_one, hz, List.mem_append]
      simp [or_comm]
    · refine hR s'' ks2 (Moved.trans W.gtrans ((mv.mono hsub).then_heap (Nat.le_succ _) fun b o hb e => ?_) mv2) hc2 hS3 hm3
      rw [hsb.2 b (fun h : b = S => hb (by rw [h]; exact List.mem_cons_self))]; exact e
end
section
variable {P : Program} {w : World} {A : Around} {E : Value → Shared → Prop} {s : Shared}
/-- T(..) of a built-in class whose __init__ is checked by a rule of its own -/
theorem type_checked {T newId initId : String} {Bi : Builtin} {args : List Value} {Q Q₁ : Value → Shared → Prop} (ft : TypeCalled T newId initId) (hct : checkTypeCall T ⟨args, []⟩ = pure ()) (entryI : entryFor table initId = some Bi)
    (hnew : codeAny (model P w) A.in1 (.call (.builtin newId) ⟨.type T :: args, []⟩) (wants Q₁ E) s)
    (hnext : ∀ obj s₁, Q₁ obj s₁ → s₁.TypeIs obj T ∧ codeAny (model P w) A.in1 (.call (.builtin initId) ⟨obj :: args, []⟩) (wants (fun r s₂ => r = .none ∧ Q obj s₂) E) s₁) :
    wpAny (model P w) A (call (.type T) args) Q E s := by
  obtain ⟨c, tl, hmro⟩ := ft.mro
  have hmade := ft.made
  have hsub := ft.sub
  refine wpAny_call (codeAny_of_tree ?_)
  show wpAny _ _ (callAny (.type T) _) _ _ _
  refine wpAny_pure ⟨Code.quiet_builtin _ (by decide +kernel), codeAny_builtin F.entry_type_call ?_⟩
  rw [Around.under_plain (weight_type_call_type T args []) rfl]
  have h1 := ft.notType
  have h2 := ft.canCreate
  repeat (any_goals (first | assumption | wp_step))
  refine codeAny_mono hnew fun r s₁ hr => ?_
  match r, hr with
  | .error e, hr => exact hr
  | .ok .next, hr => exact hr.elim
  | .ok .brk, hr => exact hr.elim
  | .ok .cont, hr => exact hr.elim
  | .ok (.ret obj), hr =>
    obtain ⟨hT, hgo⟩ := hnext _ _ hr
    have hli := ft.init.lookup
    have hbi := ft.init.bind obj
    repeat (any_goals (first | assumption | wp_step))
    refine codeAny_mono hgo fun r₂ s₂ hr₂ => ?_
    match r₂, hr₂ with
    | .error e, hr₂ => exact hr₂
    | .ok .next, hr₂ => exact hr₂.elim
    | .ok .brk, hr₂ => exact hr₂.elim
    | .ok .cont, hr₂ => exact hr₂.elim
    | .ok (.ret r), hr₂ =>
      obtain ⟨rfl, hq⟩ := hr₂
      repeat (any_goals (first | assumption | wp_step))
/-- set(l), l a list of texts -/
theorem set_of_texts {l : Addr} {items : Array Value} (xs : List Str) {Q : Value → Shared → Prop} (hh : A.handled = none) (hl : s.heap.IsList l items) (hit : StrsAre items.toList xs) (hb : xs.length + 1 < scanBound)
    (h : ∀ (h' : Heap) (tk : Nat) (ks : List Str), SetX w h' s.heap.objs.size ks → ks.length ≤ xs.length → (∀ z, z ∈ ks ↔ z ∈ xs) → (∀ b o, s.heap.get? b = some o → h'.get? b = some o) → Q (.ref s.heap.objs.size) { s with heap := h', toks := tk }) :
    wpAny (model P w) A (call (.type "set") [.ref l]) Q E s := by
  have hsz : items.size = xs.length := by
    have q := StrsAre.length hit
    rwa [Array.length_toList] at q
  refine type_checked (Q₁ := fun obj s₁ => obj = .ref s.heap.objs.size ∧ s₁ = { s with heap := s.heap.push (set0 w) }) F.called_set (F.typeCall_set_1 (.ref l)) F.entry_set_init (code_set_led1 (.ref l) ⟨rfl, rfl⟩) ?_
  rintro obj s₁ ⟨rfl, rfl⟩
  have hS : (s.heap.push (set0 w)).get? s.heap.objs.size = some (set0 w) := Heap.get?_push_size _ rfl
  have hT : Shared.TypeIs { s with heap := s.heap.push (set0 w) } (.ref s.heap.objs.size) "set" := ⟨_, hS, rfl⟩
  refine ⟨hT, codeAny_call_builtin F.called_set.init.plain F.entry_set_init (check_set_init_1 hT ?_)⟩
  obtain ⟨⟨ocls, odict, odata, oslots⟩, hol, hcl, nl, hdl⟩ := hl
  simp only at hcl hdl
  subst hcl; subst hdl
  have hlS : l < s.heap.objs.size := Heap.lt_size hol
  have hol' : (s.heap.push (set0 w)).get? l = some { cls := .type "list", dict := odict, data := .seq items nl, slots := oslots } := Heap.get?_push_of_some _ hol
  have hl1 : (s.heap.push (set0 w)).IsList l items := ⟨_, hol', rfl, nl, rfl⟩
  have hsls := F.sub_list_set
  have hslf := F.sub_list_frozenset
  have hne : (Value.type "list" == Value.type "dict") = false := by decide
  have hh3 : A.in1.in1.in1.handled = none := by simp [hh]
  have hz1 : (s.heap.push (set0 w)).objs.size = s.heap.objs.size + 1 := Heap.size_push ..
  have hneI : l ≠ (s.heap.push (set0 w)).objs.size := by
    rw [hz1]; exact Nat.ne_of_lt (Nat.lt_succ_of_lt hlS)
  have hSf : s.heap.objs.size ∉ [(s.heap.push (set0 w)).objs.size, l] := by
    rw [hz1]
    simp only [List.mem_cons, List.not_mem_nil, or_false, not_or]
    exact ⟨Nat.ne_of_lt (Nat.lt_succ_self _), Nat.ne_of_gt hlS⟩
  have hval : ∀ (i : Nat) (v : Value), items[i]? = some v → ∃ k t, xs[i]? = some k ∧ v = .str k t := fun i v hv => by
    have q : items.toList[i]? = some v := by rw [Array.getElem?_toList]; exact hv
    obtain ⟨t, e⟩ := SS.strs_at hit i v q
    have hi : i < xs.length := by rw [← hsz]; exact (Array.getElem?_eq_some_iff.mp hv).1
    refine ⟨xs[i], t, List.getElem?_eq_getElem hi, ?_⟩
    rw [e, List.getD_eq_getElem?_getD, List.getElem?_eq_getElem hi] <;> rfl
  unfold Builtin.«set.__init__» noKeywords Builtin.Frozenset.updateFrom
  generalize hPI : pyIter = PI
  wp_walk
  subst hPI
  refine wpAny_pyIter_list hl1 ?_
  refine wpAny_bind (wpAny_runValue ?_)
  refine setX_update ((Walks.list hh3 _ l hneI items).toS) s.heap.objs.size hSf xs hsz hb hval (items.size - 0) 0 _ (by omega) (Nat.zero_le _) ⟨⟨_, Heap.get?_push_size _ rfl, rfl, rfl⟩, (hl1.push _)⟩ ?hS0 ?hR
  case hS0 => exact ⟨[], Nat.le_refl _, setX_fresh (Heap.get?_push_of_some _ hS), fun z => by simp⟩
  case hR =>
    intro s' ks hm hc hX hk
    obtain ⟨h', g2, d', tk', os'⟩ := s'
    have eg : g2 = s.gens := hm.gens
    have ed : d' = s.drawn := hm.drawn
    have eo : os' = s.os := hm.os
    subst eg; subst ed; subst eo
    show wpAny _ _ _ _ _ _
    refine wpAny_pure ?_
    show wpAny _ _ (ret Value.none) _ _ _
    refine wpAny_pure ⟨rfl, h h' tk' ks hX (by rw [← hsz]; exact hc) hk fun b o e => ?_⟩
    have hb0 : b < s.heap.objs.size := Heap.lt_size e
    refine hm.heap b o (fun z => ?_) (Heap.get?_push_of_some _ (Heap.get?_push_of_some _ e))
    rcases List.mem_cons.mp z with z | z
    · exact absurd hb0 (by rw [z]; exact Nat.lt_irrefl _)
    · rw [List.mem_singleton] at z
      rw [hz1] at z
      rw [z] at hb0
      exact absurd hb0 (Nat.not_lt_of_le (Nat.le_succ _))
end
end Fk

set_option Elab.async false
set_option linter.all false
set_option maxRecDepth 100000
set_option maxHeartbeats 4000000
/-! Fk O: set(list of texts), sorted(set of texts), sorted(list of data), plain tuples, dict(tuple of pairs). -/
namespace Fk
open PySem PySem.Spec PyProof.Rows L2

/-! ### rows of texts in order -/
theorem sortedS_pw : ∀ (l : List Str), sortedS l = true → l.Pairwise (fun a b => a.cps.toList ≤ b.cps.toList)
  | [], _ => .nil
  | [x], _ => List.pairwise_singleton _ _
  | x :: y :: r, h => by
    have h' : (!ltCps y.cps.toList x.cps.toList && risingS y r) = true := h
    rw [Bool.and_eq_true] at h'
    have ih := sortedS_pw (y :: r) h'.2
    have h1 : x.cps.toList ≤ y.cps.toList := by
      have q := h'.1
      rw [ltCps_eq] at q
      simp only [Bool.not_eq_true', decide_eq_false_iff_not] at q
      exact List.not_lt.mp q
    refine List.pairwise_cons.mpr ⟨fun z hz => ?_, ih⟩
    rcases List.mem_cons.mp hz with rfl | hz
    · exact h1
    · exact List.le_trans h1 ((List.pairwise_cons.mp ih).1 z hz)
theorem str_ext {a b : Str} (h : a.cps.toList = b.cps.toList) : a = b := by
  cases a; cases b
  simp only [Str.mk.injEq]
  exact Array.ext' h
theorem sortedS_uniq {l m : List Str} (hl : sortedS l = true) (hm : sortedS m = true) (p : l.Perm m) : l = m :=
  p.eq_of_pairwise (fun a b _ _ h1 h2 => str_ext (List.le_antisymm h1 h2)) (sortedS_pw l hl) (sortedS_pw m hm)

/-! ### sets of texts -/
def SetXO (w : World) (a : Addr) (ks : List Str) : HO := .ext fun h => SetX w h a ks
section
variable {X : Cx}
theorem setXO_new {w : World} {P : Program} {H : Hp} {h : Heap} {a : Addr} {ks : List Str} (R : SetX w h a ks) : ObjOk P w H h a (SetXO w a ks) := by
  have ⟨o, _, _, _, ho, _⟩ := R
  exact ⟨R, ⟨o, ho⟩, fun h1 h2 p k => SetX.keep p k⟩
theorem setXO_get {pins : List (Addr × Obj)} {σ : L2.St} {H : Hp} {s : Shared} {a : Addr} {ks : List Str} (I : Inv X pins σ H s) (ha : H a = some (SetXO X.w a ks)) : SetX X.w s.heap a ks := (I.hok a _ ha).1
def rSetT (K : PySem.W.Frag) (w : World) : List V → Hp → VK → Prop := fun vs H Q => ∃ (a : Addr) (xs : List Str), vs = [V.ref a] ∧ SqL K H a (xs.map V.str) ∧ xs.length < 64 ∧
  ∀ (ks : List Str) (p : Addr), ks.Nodup → (∀ z, z ∈ ks ↔ z ∈ xs) → ks.length ≤ xs.length → H p = none → Q (.ref p) (upd H p (SetXO w p ks))
theorem SetX.nodup {w : World} {h : Heap} {a : Addr} {ks : List Str} (R : SetX w h a ks) : ks.Nodup := by
  obtain ⟨o, es, ep, t, _, _, _, _, _, nd, _⟩ := R
  exact nd
theorem call_setT (hc : X.calm = true) : CallR X (.type "set") (rSetT X.K X.w) := by
  intro pins s σ H vs us Q I r h
  obtain ⟨a, xs, rfl, hs, h64, q⟩ := h
  obtain ⟨its, rv, hl, _⟩ := I.list hs
  rw [Vals.ref1 r]
  refine set_of_texts (items := its.toArray) xs (I.ok.hd hc) hl.isList rv.strs (by unfold scanBound; omega) fun h' tk ks hX hle hm k => ?_
  exact ⟨.ref _, upd H s.heap.objs.size (SetXO X.w s.heap.objs.size ks), I.laid (t' := tk) k (Nat.le_refl _) (setXO_new hX), rfl, q ks _ hX.nodup hm hle (I.hok.fresh (Nat.le_refl _))⟩
def rSortSX (w : World) : List V → Hp → VK → Prop := fun vs H Q => ∃ (a : Addr) (ks : List Str), vs = [V.ref a] ∧ H a = some (SetXO w a ks) ∧ ks.length < 64 ∧
  ∀ (ys : List Str) (p : Addr), ys.Perm ks → sortedS ys = true → H p = none → Q (.ref p) (upd H p (.lst (ys.map V.str)))
theorem strs_of_tx : ∀ (l : List Value), (∀ v ∈ l, ∃ x t, v = Value.str x t) → StrsAre l (l.map PyProof.Rows.strOf) := fun l h => strsAre_map l h
theorem sorted_setX {P : Program} {w : World} {A : Around} {E : Value → Shared → Prop} {s : Shared} {a : Addr} {ks : List Str} {Q : Value → Shared → Prop} (R : SetX w s.heap a ks) (hh : A.handled = none) (h64 : ks.length < 64)
    (hQ : ∀ s' p (out : Array Value) (c : Nat) (ys : List Str), (∀ b o, s.heap.get? b = some o → s'.heap.get? b = some o) → s'.gens = s.gens → s'.os = s.os → s.heap.objs.size ≤ p →
      s'.heap.get? p = some (seqObj "list" out c) → StrsAre out.toList ys → ys.Perm ks → sortedS ys = true → Q (.ref p) s') :
    wpAny (model P w) A (call (.builtin "sorted") [.ref a]) Q E s := by
  obtain ⟨o, es, ep, t, ho, hex, hd, g, pm0, nd, hb, hf, hr, hl⟩ := R
  have hn : es.size = ks.length := by
    have q := pm0.length_eq
    rwa [List.length_map, Array.length_toList] at q
  refine Calls.call_function_entry kind_sorted plain_sorted entry_sorted (args_sorted1 _) ?_
  unfold Builtin.«sorted»
  refine wpAny_bind (m := checkCount "sorted" 1 1 _) (wpAny_pure ?_)
  refine wpAny_bind (collect_set (A := A.in1) hh ⟨o, ho, hex.1, hd⟩ hf hb hr hl fun s1 vs k1 hz g1 o1 pm => ?_)
  have hvl : vs.length = ks.length := by rw [pm.length_eq, List.length_map, Array.length_toList]; exact hn
  have hvs : ∀ v ∈ vs, ∃ x t, v = Value.str x t := fun v hv => by
    obtain ⟨e, he, q⟩ := List.mem_map.mp (pm.mem_iff.mp hv)
    obtain ⟨k, tk, h1, _⟩ := g e he
    exact ⟨k, tk, by rw [← q]; exact h1⟩
  have hS : StrsAre vs (vs.map PyProof.Rows.strOf) := strsAre_map vs hvs
  have pk : (vs.map PyProof.Rows.strOf).Perm ks := by
    have q := pm.map PyProof.Rows.strOf
    rw [List.map_map] at q
    refine q.trans (List.Perm.trans (List.Perm.of_eq (List.map_congr_left fun e he => ?_)) pm0)
    obtain ⟨k, tk, h1, _⟩ := g e he
    show PyProof.Rows.strOf e.2 = txOf e
    unfold txOf
    rw [h1]
    rfl
  refine wpAny_bind (wpAny_newList ?_ (by rw [hvl, sizeLine_eq]; omega))
  have hoL : (s1.heap.push (seqObj "list" vs.toArray 0)).get? s1.heap.objs.size = some (seqObj "list" vs.toArray 0) := Heap.get?_push_size _ rfl
  refine wpAny_bind (wpAny_holding (wpAny_call_entry slot_list_sort ⟨_, hoL, rfl⟩ entry_list_sort (list_sort_treeK strKind_oneLt hoL hS.keysOf (fun v₁ v₂ rest e => keyKind_strs (by rw [← e]; exact hS)) (by rw [hvl]; exact h64) fun st' hp hs => ?_) (args_list_sort _)))
  obtain ⟨ys, a1, a2, a3⟩ := sorted_out_str hS hp hs
  refine ⟨_, rfl, ?_⟩
  obtain ⟨c, hc⟩ := sortedHeap_at (vs := vs) (out := (arrOf st').map (·.2)) hoL
  refine wpAny_pure ⟨_, rfl, hQ _ s1.heap.objs.size _ c ys (fun b u e => ?_) g1 o1 hz hc a1 (a2.trans pk) a3⟩
  have q := k1 b u e
  have hlt := Heap.lt_size q
  show (sortedHeap (s1.heap.push (seqObj "list" vs.toArray 0)) s1.heap.objs.size vs ((arrOf st').map (·.2))).get? b = some u
  rw [sortedHeap_old (Nat.ne_of_lt hlt) (by rw [size_push']; exact Nat.lt_succ_of_lt hlt)]
  exact Heap.get?_push_of_some _ q
theorem cr_sortSX (hc : X.calm = true) : CallR X (.builtin "sorted") (rSortSX X.w) := by
  intro pins s σ H vs us Q I r h
  obtain ⟨a, ks, rfl, ha, h64, q⟩ := h
  have R := setXO_get I ha
  rw [Vals.ref1 r]
  refine sorted_setX R (I.ok.hd hc) h64 fun s' p out c ys k g o hp hg hi hpm hs => ?_
  have hlen : (ys.map V.str).length ≤ sizeLine := by rw [List.length_map, hpm.length_eq, sizeLine_eq]; omega
  have hn : H p = none := I.hok.fresh hp
  have J : Inv X pins σ (upd H p (.lst (ys.map V.str))) { s with heap := s'.heap, gens := s'.gens, drawn := s'.drawn, toks := s'.toks } :=
    I.call (ch := []) (Un.laid k hp hn) (I.hok.laid k hp ⟨hlen, out.toList, c, vals_of_strs hi, hg⟩) (by rw [g]; exact I.bare) (fun _ z => nomatch z)
  have e : s' = { s with heap := s'.heap, gens := s'.gens, drawn := s'.drawn, toks := s'.toks } := by
    cases s'
    cases s
    cases o
    rfl
  rw [e]
  exact ⟨.ref p, _, J, rfl, q ys p hpm hs hn⟩

/-! ### sorted(list of data) -/
def rSortD (K : PySem.W.Frag) : List V → Hp → VK → Prop := fun vs H Q => ∃ (a : Addr) (bs : List (V × PyData)), vs = [V.ref a] ∧ SqL K H a (bs.map (·.1)) ∧ (∀ b ∈ bs, Dp K H b.1 b.2 ∧ b.2.depth ≤ 8) ∧ PySem.W.AllAlike (bs.map (·.2)) ∧ PySem.W.Sortable (bs.map (·.2)) ∧
  ∀ (p : Addr), H p = none → Q (.ref p) (upd H p (.lst ((bs.mergeSort (PySem.W.dataLe false (·.2))).map (·.1))))
theorem each_reads {pins : List (Addr × Obj)} {σ : L2.St} {H : Hp} {s : Shared} (I : Inv X pins σ H s) : ∀ (bs : List (V × PyData)) (its : List Value), Vals (bs.map (·.1)) its → (∀ b ∈ bs, Dp X.K H b.1 b.2 ∧ b.2.depth ≤ 8) →
    PySem.W.EachIs (fun v (b : V × PyData) => RelV b.1 v) its bs ∧ PySem.W.EachIs (fun v (b : V × PyData) => ∃ as, Reads s.heap v b.2 as) its bs
  | [], _, r, _ => by
    cases r
    exact ⟨.nil, .nil⟩
  | b :: bs, _, r, h => by
    cases r with
    | cons r1 r2 =>
      obtain ⟨h1, h2⟩ := each_reads I bs _ r2 fun x hx => h x (List.mem_cons_of_mem _ hx)
      exact ⟨.cons r1 h1, .cons (Dp.reads I _ _ _ (h b List.mem_cons_self).1 r1) h2⟩
theorem vals_each : ∀ {out : List Value} {bs : List (V × PyData)}, PySem.W.EachIs (fun v (b : V × PyData) => RelV b.1 v) out bs → Vals (bs.map (·.1)) out
  | _, _, .nil => .nil
  | _, _, .cons r t => .cons r (vals_each t)
theorem cr_sortD (hu : X.A.units + 64 < cLine) : CallR X (.builtin "sorted") (rSortD X.K) := by
  intro pins s σ H vs us Q I r h
  obtain ⟨a, bs, rfl, hs, hd, hal, hk, q⟩ := h
  obtain ⟨its, rv, hl, hz⟩ := I.list hs
  rw [Vals.ref1 r]
  rw [List.length_map] at hz
  obtain ⟨e1, e2⟩ := each_reads I bs its rv hd
  refine PySem.W.sorted_data (vs := its) (bs := bs) (enc := (·.2)) hl.isList e1 e2 hal hk hz (fun b hb => by have := (hd b hb).2; omega) fun out hlen ho => ?_
  obtain ⟨ep, he'⟩ := PyProof.Rows.sortedAll_at s.heap its out.toArray
  have hlen' : ((bs.mergeSort (PySem.W.dataLe false (·.2))).map (·.1)).length ≤ sizeLine := by rw [List.length_map, List.length_mergeSort]; exact hz
  exact ⟨.ref _, upd H (s.heap.objs.size + 1) (.lst ((bs.mergeSort (PySem.W.dataLe false (·.2))).map (·.1))), I.laid (t' := s.toks) (fun _ _ => PyProof.Rows.sortedAll_old) (Nat.le_succ _) ⟨hlen', out, ep, vals_each ho, he'⟩, rfl, q _ (I.hok.fresh (Nat.le_succ _))⟩

/-! ### plain tuples: those of which is known that they have no dict -/
def PlT (H : Hp) (a : Addr) (xs : List V) : Prop := ∃ o, H a = some (.frz o (.tup xs)) ∧ o.cls = .type "tuple" ∧ o.dict = none
theorem PlT.sq {K : PySem.W.Frag} {H : Hp} {a : Addr} {xs : List V} (h : PlT H a xs) : SqT K H a xs := by
  obtain ⟨o, h, _⟩ := h
  exact .inl (.inr ⟨o, h⟩)
def tTupP (t : TA) : TE := fun σ H Q => t σ H fun xs H1 => xs.length ≤ sizeLine ∧ ∀ p o, H1 p = none → o.cls = .type "tuple" → o.dict = none → Q (.ref p) (upd H1 p (.frz o (.tup xs)))
theorem pe_tupP {es : List Expr} {t : TA} {pos : Pos} {x1} (h : PA X es t) : PE X (.Tuple es x1 pos) (tTupP t) := by
  refine ⟨fun pins s σ H Q I hq => ?_⟩
  refine wpAny_Tuple_spliced (thn (h.run pos pins s σ H _ I hq) fun us s1 ⟨xs, H1, I1, r, z, q⟩ => ⟨by rw [← r.length]; exact z, ?_⟩)
  have hf : H1 s1.heap.objs.size = none := I1.hok.fresh (Nat.le_refl _)
  exact ⟨.ref s1.heap.objs.size, upd H1 s1.heap.objs.size (.frz { cls := .type "tuple", data := .seq us.toArray } (.tup xs)), I1.laid (t' := s1.toks) (fun b u e => Heap.get?_push_of_some _ e) (Nat.le_refl _) ⟨Heap.get?_push_size _ rfl, z, us, r, ⟨_, Heap.get?_push_size _ rfl, rfl, _, rfl⟩⟩, rfl, q _ _ hf rfl rfl⟩
def kTupP (K : PySem.W.Frag) (x : V) (H : Hp) (Q : VK) : Prop := ∃ p xs, x = .ref p ∧ SqL K H p xs ∧ ∀ q o, H q = none → o.cls = .type "tuple" → o.dict = none → Q (.ref q) (upd H q (.frz o (.tup xs)))
theorem rl_tupleP (pins : List (Addr × Obj)) (s : Shared) (σ : L2.St) (H : Hp) (x : V) (v : Value) (Q : VK) (I : Inv X pins σ H s) (r : RelV x v) (h : kTupP X.K x H Q) :
    wpAny (model X.prog X.w) X.A (call (.type "tuple") [v]) (EP X pins σ Q) X.xe s := by
  obtain ⟨p, xs, rfl, hs, q⟩ := h
  obtain rfl : v = .ref p := r
  obtain ⟨its, rv, pl, hz⟩ := I.list hs
  refine call_tuple_list pl.isList (fun h' hk => ?_) (by rw [List.size_toArray, ← rv.length]; exact hz)
  have I1 : Inv X pins σ H { s with heap := h' } := I.kept (t' := s.toks) hk
  have I2 : Inv X pins σ (upd H h'.objs.size (.frz _ (.tup xs))) { s with heap := h'.push { cls := .type "tuple", data := .seq its.toArray } } :=
    I1.laid (t' := s.toks) (fun b o e => Heap.get?_push_of_some _ e) (Nat.le_refl _) (show ObjOk X.prog X.w _ _ _ (.frz _ (.tup xs)) from ⟨Heap.get?_push_size _ rfl, hz, its, rv, IsTup.new _ _⟩)
  exact ⟨.ref h'.objs.size, _, I2, rfl, q _ _ (I1.hok.fresh (Nat.le_refl _)) rfl rfl⟩
theorem pe_tuplePl {a : Expr} {ta : TE} {p pos : Pos} (hg : Gl X "tuple") (hm : X.mg "tuple" = none) (ha : PE X a ta) (na : starEach [a] X.env = (false, eval a X.env) :: starEach [] X.env := by rfl) :
    PE X (.Call (.Name "tuple" p) [a] [] pos) (tThen ta (kTupP X.K)) := by
  refine ⟨fun pins s σ H Q I h => ?_⟩
  exact Call_ (ld_blt I hg hm boot_tuple (PyProof.Rows.callWith_type1 (one_arg ha I h (fun v s2 x H2 I2 r q => rl_tupleP pins s2 σ H2 x v Q I2 r q) na) na))

/-! ### dict(tuple of pairs) -/
theorem pairs_of2 {pins : List (Addr × Obj)} {σ : L2.St} {H : Hp} {s : Shared} (I : Inv X pins σ H s) : ∀ {ps : List Addr} {kvs : List (Key × V)}, Paired (fun p kv => SqT X.K H p [kV kv.1, kv.2]) ps kvs →
    ∃ (prs : List (Key × Value)) (vps : List (Value × Value)), KV kvs prs ∧ prs.length = ps.length ∧ vps.length = ps.length ∧
      ∀ (j : Nat) (u y : Value), vps[j]? = some (u, y) → ∃ (b : Addr) (k : Key), ps[j]? = some b ∧ IsTup s.heap b #[u, y] ∧ prs[j]? = some (k, y) ∧ (mixKind X.prog X.w).is k u = true
  | _, _, .nil => ⟨[], [], .nil, rfl, rfl, fun j u y e => by simp at e⟩
  | _, _, .cons (a := p) (b := kv) h t => by
    obtain ⟨prs, vps, r, hl, hl2, hp⟩ := pairs_of2 I t
    obtain ⟨its, rv, ht, _⟩ := I.tuple h
    obtain ⟨u, y, ei, ru, ry⟩ := vals2 rv
    subst ei
    refine ⟨(kv.1, y) :: prs, (u, y) :: vps, .cons ⟨rfl, ry⟩ r, by rw [List.length_cons, List.length_cons, hl], by rw [List.length_cons, List.length_cons, hl2], fun j u' y' e => ?_⟩
    cases j with
    | zero =>
      have e' : (u, y) = (u', y') := Option.some.inj e
      cases e'
      exact ⟨p, kv.1, rfl, ht, rfl, kV_is (P := X.prog) (w := X.w) ru⟩
    | succ j =>
      obtain ⟨b, k, e1, e2, e3, e4⟩ := hp j u' y' (by simpa using e)
      exact ⟨b, k, by simpa using e1, e2, by simpa using e3, e4⟩
def rDictTP (K : PySem.W.Frag) : List V → Hp → VK → Prop := fun vs H Q => ∃ (a : Addr) (ps : List Addr) (kvs : List (Key × V)), vs = [.ref a] ∧ PlT H a (ps.map V.ref) ∧ Paired (fun p kv => SqT K H p [kV kv.1, kv.2]) ps kvs ∧
    ∀ p, H p = none → Q (.ref p) (upd H p (.dK (mergeK [] kvs)))
theorem call_dictTP (hcalm : X.calm = true) : CallR X (.type "dict") (rDictTP X.K) := by
  intro pins s σ H xs us Q I r q
  obtain ⟨a, ps, kvs, ex, ⟨o, hq, hoc, hod⟩, hp, q⟩ := q
  subst ex
  obtain ⟨u, eu, rx⟩ := vals1 r
  subst eu
  cases rx
  obtain ⟨ho, hz, its, rv, o', ho', hc', n', hdat'⟩ := I.hok a _ hq
  rw [ho] at ho'
  cases ho'
  have ei := refs_at rv
  subst ei
  rw [List.length_map] at hz
  obtain ⟨prs, vps, rel, hl, hl2, hpr⟩ := pairs_of2 I hp
  have items : PairItems s.heap (ps.map Value.ref).toArray (fun j => ps.getD j 0) vps := by
    refine ⟨by simp [hl2], fun j k v e => ?_⟩
    obtain ⟨b, k', e1, e2, _, _⟩ := hpr j k v e
    have e3 : ps.getD j 0 = b := by rw [List.getD_eq_getElem?_getD, e1]; rfl
    show _ ∧ PairAt s.heap (ps.getD j 0) k v
    rw [e3]
    exact ⟨by simp [e1], .inl e2⟩
  refine PySem.call_dict_pairs (knd := mixKind X.prog X.w) (kvs := prs) (PairArg.tuple a (ps.map Value.ref).toArray (fun j => ps.getD j 0) vps) (I.ok.hd hcalm) ⟨⟨o, n', ho, hoc, hod, hdat'⟩, items⟩ ⟨by rw [hl, hl2], fun i key v e => ?_⟩ (by rw [hl2]; exact hz) fun h' tk hd' k => ?_
  · obtain ⟨b, k, _, _, e3, e4⟩ := hpr i key v e
    exact ⟨k, e3, e4⟩
  · have hm : (s.heap.objs.size == sysModules) = false := beq_eq_false_iff_ne.mpr (Nat.ne_of_gt I.big)
    have hlen : (mergeK [] kvs).length ≤ sizeLine := by
      refine Nat.le_trans (length_mergeK kvs []) ?_
      rw [List.length_nil, Nat.zero_add, rel.length, hl]
      exact hz
    exact ⟨.ref s.heap.objs.size, upd H s.heap.objs.size (.dK (mergeK [] kvs)), I.laid (t' := tk) (fun b o e => k b o (fun z => nomatch z) e) (Nat.le_refl _) (show ObjOk X.prog X.w _ _ _ (.dK (mergeK [] kvs)) from ⟨hlen, hm, merged [] prs, KV.merge rel .nil, hd'⟩), rfl, q _ (I.hok.fresh (Nat.le_refl _))⟩
end
end Fk

set_option Elab.async false
set_option linter.all false
set_option maxRecDepth 100000
set_option maxHeartbeats 4000000
/-! Fk T: the statements of the top. -/
namespace Fk
open PySem PySem.Spec PyProof.Rows L2
def top (i : Nat) : Stmt := PySem.Challenge.pw_firstfailing_k12_whole_rules_there_and_b.main.body.getD i (.Pass ⟨0, 0, 0, 0⟩)
abbrev s_is_integer : Stmt := top 4
abbrev s_is_number : Stmt := top 5
abbrev s_is_letter : Stmt := top 6
abbrev s_is_thing : Stmt := top 7
abbrev s_is_rising_row : Stmt := top 8
abbrev s_is_letter_set : Stmt := top 9
abbrev s_is_pair : Stmt := top 10
abbrev s_is_entry : Stmt := top 11
abbrev s_is_side : Stmt := top 12
abbrev s_is_rule : Stmt := top 13
abbrev s_reached_letters : Stmt := top 14
abbrev s_letters_fault : Stmt := top 15
abbrev s_are_letters_known : Stmt := top 16
abbrev s_book_fault : Stmt := top 17
abbrev s_want : Stmt := top 27
abbrev s_known_letters : Stmt := top 28
abbrev s_is_thing_of : Stmt := top 29
abbrev s_is_rule_of : Stmt := top 30
abbrev s_want_thing : Stmt := top 31
abbrev s_put_in : Stmt := top 33
abbrev s_with_rule : Stmt := top 34
abbrev s_without_rule : Stmt := top 35
abbrev s_moved_rule : Stmt := top 36
abbrev s_mirrored_rule : Stmt := top 37
abbrev s_mirrored : Stmt := top 38
abbrev s_lets_book : Stmt := top 40
abbrev s_places_of : Stmt := top 60
abbrev s_results_of : Stmt := top 61
abbrev s_steps_by : Stmt := top 62
abbrev s_next_ones : Stmt := top 66
abbrev s_lies_at_most : Stmt := top 67
abbrev s_is_at_most : Stmt := top 68
abbrev s_next_ones_below : Stmt := top 69
abbrev s_next_less : Stmt := top 70
abbrev s_law_tape : Stmt := top 72
abbrev s_law_draw : Stmt := top 73
abbrev s_law_pick : Stmt := top 74
abbrev s_law_signs : Stmt := top 75
abbrev s_law_rows : Stmt := top 76
abbrev s_law_norm : Stmt := top 77
abbrev s_law_page : Stmt := top 78
abbrev s_law_letters : Stmt := top 79
abbrev s_law_word : Stmt := top 80
abbrev s_law_places : Stmt := top 81
abbrev s_law_results : Stmt := top 82
abbrev s_law_steps : Stmt := top 83
abbrev s_law_mirrored : Stmt := top 84
abbrev s_law_are_steps : Stmt := top 85
abbrev s_law_is_put : Stmt := top 86
abbrev s_law_is_moved : Stmt := top 87
abbrev s_law_are_far : Stmt := top 88
abbrev s_law : Stmt := top 89
abbrev s_Book__init__ : Stmt := inClass (top 64) 0
abbrev s_Book__call__ : Stmt := inClass (top 64) 10
end Fk

set_option Elab.async false
set_option linter.all false
set_option maxRecDepth 100000
set_option maxHeartbeats 0
/-! Fk H: the head. -/
namespace Fk
open PySem PySem.Spec PyProof.Rows L2
def d_is_integer : He.DefD := ⟨("is_integer", none), "is_integer", "is_integer", defArgs s_is_integer, defBody s_is_integer, defScope s_is_integer, [], []⟩
def d_is_number : He.DefD := ⟨("is_number", none), "is_number", "is_number", defArgs s_is_number, defBody s_is_number, defScope s_is_number, [], []⟩
def d_is_letter : He.DefD := ⟨("is_letter", none), "is_letter", "is_letter", defArgs s_is_letter, defBody s_is_letter, defScope s_is_letter, [], []⟩
def d_is_thing : He.DefD := ⟨("is_thing", none), "is_thing", "is_thing", defArgs s_is_thing, defBody s_is_thing, defScope s_is_thing, [], []⟩
def d_is_rising_row : He.DefD := ⟨("is_rising_row", none), "is_rising_row", "is_rising_row", defArgs s_is_rising_row, defBody s_is_rising_row, defScope s_is_rising_row, [], []⟩
def d_is_letter_set : He.DefD := ⟨("is_letter_set", none), "is_letter_set", "is_letter_set", defArgs s_is_letter_set, defBody s_is_letter_set, defScope s_is_letter_set, [], []⟩
def d_is_pair : He.DefD := ⟨("is_pair", none), "is_pair", "is_pair", defArgs s_is_pair, defBody s_is_pair, defScope s_is_pair, [], []⟩
def d_is_entry : He.DefD := ⟨("is_entry", none), "is_entry", "is_entry", defArgs s_is_entry, defBody s_is_entry, defScope s_is_entry, [], []⟩
def d_is_side : He.DefD := ⟨("is_side", none), "is_side", "is_side", defArgs s_is_side, defBody s_is_side, defScope s_is_side, [], []⟩
def d_is_rule : He.DefD := ⟨("is_rule", none), "is_rule", "is_rule", defArgs s_is_rule, defBody s_is_rule, defScope s_is_rule, [], []⟩
def d_reached_letters : He.DefD := ⟨("reached_letters", none), "reached_letters", "reached_letters", defArgs s_reached_letters, defBody s_reached_letters, defScope s_reached_letters, [], []⟩
def d_letters_fault : He.DefD := ⟨("letters_fault", none), "letters_fault", "letters_fault", defArgs s_letters_fault, defBody s_letters_fault, defScope s_letters_fault, [], []⟩
def d_are_letters_known : He.DefD := ⟨("are_letters_known", none), "are_letters_known", "are_letters_known", defArgs s_are_letters_known, defBody s_are_letters_known, defScope s_are_letters_known, [], []⟩
def d_book_fault : He.DefD := ⟨("book_fault", none), "book_fault", "book_fault", defArgs s_book_fault, defBody s_book_fault, defScope s_book_fault, [], []⟩
def d_want : He.DefD := ⟨("want", none), "want", "want", defArgs s_want, defBody s_want, defScope s_want, [.int (-1)], []⟩
def d_known_letters : He.DefD := ⟨("known_letters", none), "known_letters", "known_letters", defArgs s_known_letters, defBody s_known_letters, defScope s_known_letters, [], []⟩
def d_is_thing_of : He.DefD := ⟨("is_thing_of", none), "is_thing_of", "is_thing_of", defArgs s_is_thing_of, defBody s_is_thing_of, defScope s_is_thing_of, [], []⟩
def d_is_rule_of : He.DefD := ⟨("is_rule_of", none), "is_rule_of", "is_rule_of", defArgs s_is_rule_of, defBody s_is_rule_of, defScope s_is_rule_of, [], []⟩
def d_want_thing : He.DefD := ⟨("want_thing", none), "want_thing", "want_thing", defArgs s_want_thing, defBody s_want_thing, defScope s_want_thing, [], []⟩
def d_put_in : He.DefD := ⟨("put_in", none), "put_in", "put_in", defArgs s_put_in, defBody s_put_in, defScope s_put_in, [], []⟩
def d_with_rule : He.DefD := ⟨("with_rule", none), "with_rule", "with_rule", defArgs s_with_rule, defBody s_with_rule, defScope s_with_rule, [], [("at", .non)]⟩
def d_without_rule : He.DefD := ⟨("without_rule", none), "without_rule", "without_rule", defArgs s_without_rule, defBody s_without_rule, defScope s_without_rule, [], []⟩
def d_moved_rule : He.DefD := ⟨("moved_rule", none), "moved_rule", "moved_rule", defArgs s_moved_rule, defBody s_moved_rule, defScope s_moved_rule, [], []⟩
def d_mirrored_rule : He.DefD := ⟨("mirrored_rule", none), "mirrored_rule", "mirrored_rule", defArgs s_mirrored_rule, defBody s_mirrored_rule, defScope s_mirrored_rule, [], []⟩
def d_mirrored : He.DefD := ⟨("mirrored", none), "mirrored", "mirrored", defArgs s_mirrored, defBody s_mirrored, defScope s_mirrored, [], []⟩
def d_lets_book : He.DefD := ⟨("lets_book", none), "lets_book", "lets_book", defArgs s_lets_book, defBody s_lets_book, defScope s_lets_book, [], []⟩
def d_places_of : He.DefD := ⟨("places_of", none), "places_of", "places_of", defArgs s_places_of, defBody s_places_of, defScope s_places_of, [], []⟩
def d_results_of : He.DefD := ⟨("results_of", none), "results_of", "results_of", defArgs s_results_of, defBody s_results_of, defScope s_results_of, [], []⟩
def d_steps_by : He.DefD := ⟨("steps_by", none), "steps_by", "steps_by", defArgs s_steps_by, defBody s_steps_by, defScope s_steps_by, [], []⟩
def d_next_ones : He.DefD := ⟨("next_ones", none), "next_ones", "next_ones", defArgs s_next_ones, defBody s_next_ones, defScope s_next_ones, [], []⟩
def d_lies_at_most : He.DefD := ⟨("lies_at_most", none), "lies_at_most", "lies_at_most", defArgs s_lies_at_most, defBody s_lies_at_most, defScope s_lies_at_most, [], []⟩
def d_is_at_most : He.DefD := ⟨("is_at_most", none), "is_at_most", "is_at_most", defArgs s_is_at_most, defBody s_is_at_most, defScope s_is_at_most, [], []⟩
def d_next_ones_below : He.DefD := ⟨("next_ones_below", none), "next_ones_below", "next_ones_below", defArgs s_next_ones_below, defBody s_next_ones_below, defScope s_next_ones_below, [], []⟩
def d_next_less : He.DefD := ⟨("next_less", none), "next_less", "next_less", defArgs s_next_less, defBody s_next_less, defScope s_next_less, [], []⟩
def d_law_tape : He.DefD := ⟨("_law_tape", none), "_law_tape", "_law_tape", defArgs s_law_tape, defBody s_law_tape, defScope s_law_tape, [], []⟩
def d_law_draw : He.DefD := ⟨("_law_draw", none), "_law_draw", "_law_draw", defArgs s_law_draw, defBody s_law_draw, defScope s_law_draw, [], []⟩
def d_law_pick : He.DefD := ⟨("_law_pick", none), "_law_pick", "_law_pick", defArgs s_law_pick, defBody s_law_pick, defScope s_law_pick, [], []⟩
def d_law_signs : He.DefD := ⟨("_law_signs", none), "_law_signs", "_law_signs", defArgs s_law_signs, defBody s_law_signs, defScope s_law_signs, [], []⟩
def d_law_rows : He.DefD := ⟨("_law_rows", none), "_law_rows", "_law_rows", defArgs s_law_rows, defBody s_law_rows, defScope s_law_rows, [], []⟩
def d_law_norm : He.DefD := ⟨("_law_norm", none), "_law_norm", "_law_norm", defArgs s_law_norm, defBody s_law_norm, defScope s_law_norm, [], []⟩
def d_law_page : He.DefD := ⟨("_law_page", none), "_law_page", "_law_page", defArgs s_law_page, defBody s_law_page, defScope s_law_page, [], []⟩
def d_law_letters : He.DefD := ⟨("_law_letters", none), "_law_letters", "_law_letters", defArgs s_law_letters, defBody s_law_letters, defScope s_law_letters, [], []⟩
def d_law_word : He.DefD := ⟨("_law_word", none), "_law_word", "_law_word", defArgs s_law_word, defBody s_law_word, defScope s_law_word, [], []⟩
def d_law_places : He.DefD := ⟨("_law_places", none), "_law_places", "_law_places", defArgs s_law_places, defBody s_law_places, defScope s_law_places, [], []⟩
def d_law_results : He.DefD := ⟨("_law_results", none), "_law_results", "_law_results", defArgs s_law_results, defBody s_law_results, defScope s_law_results, [], []⟩
def d_law_steps : He.DefD := ⟨("_law_steps", none), "_law_steps", "_law_steps", defArgs s_law_steps, defBody s_law_steps, defScope s_law_steps, [], []⟩
def d_law_mirrored : He.DefD := ⟨("_law_mirrored", none), "_law_mirrored", "_law_mirrored", defArgs s_law_mirrored, defBody s_law_mirrored, defScope s_law_mirrored, [], []⟩
def d_law_are_steps : He.DefD := ⟨("_law_are_steps", none), "_law_are_steps", "_law_are_steps", defArgs s_law_are_steps, defBody s_law_are_steps, defScope s_law_are_steps, [], []⟩
def d_law_is_put : He.DefD := ⟨("_law_is_put", none), "_law_is_put", "_law_is_put", defArgs s_law_is_put, defBody s_law_is_put, defScope s_law_is_put, [], []⟩
def d_law_is_moved : He.DefD := ⟨("_law_is_moved", none), "_law_is_moved", "_law_is_moved", defArgs s_law_is_moved, defBody s_law_is_moved, defScope s_law_is_moved, [], []⟩
def d_law_are_far : He.DefD := ⟨("_law_are_far", none), "_law_are_far", "_law_are_far", defArgs s_law_are_far, defBody s_law_are_far, defScope s_law_are_far, [], []⟩
def d_law : He.DefD := ⟨("law", none), "law", "law", defArgs s_law, defBody s_law, defScope s_law, [], []⟩
def d_Book__init__ : He.DefD := ⟨("Book", some "__init__"), "__init__", "Book.__init__", defArgs s_Book__init__, defBody s_Book__init__, defScope s_Book__init__, [.adr (He.dflAt ("Book", some "__init__") 0), .adr (He.dflAt ("Book", some "__init__") 1)], []⟩
def d_Book__call__ : He.DefD := ⟨("Book", some "__call__"), "__call__", "Book.__call__", defArgs s_Book__call__, defBody s_Book__call__, defScope s_Book__call__, [], []⟩
def fn : List He.DefD := [d_is_integer, d_is_number, d_is_letter, d_is_thing, d_is_rising_row, d_is_letter_set, d_is_pair, d_is_entry, d_is_side, d_is_rule, d_reached_letters, d_letters_fault, d_are_letters_known, d_book_fault, d_want, d_known_letters, d_is_thing_of, d_is_rule_of, d_want_thing, d_put_in, d_with_rule, d_without_rule, d_moved_rule, d_mirrored_rule, d_mirrored, d_lets_book, d_places_of, d_results_of] ++ [d_steps_by, d_next_ones, d_lies_at_most, d_is_at_most, d_next_ones_below, d_next_less, d_law_tape, d_law_draw, d_law_pick, d_law_signs, d_law_rows, d_law_norm, d_law_page, d_law_letters, d_law_word, d_law_places, d_law_results, d_law_steps, d_law_mirrored, d_law_are_steps, d_law_is_put, d_law_is_moved, d_law_are_far, d_law, d_Book__init__, d_Book__call__]
def fa : List He.Fa := [.glo "is_integer", .glo "is_number", .glo "is_letter", .glo "is_thing", .glo "is_rising_row", .glo "is_letter_set", .glo "is_pair", .glo "is_entry", .glo "is_side", .glo "is_rule", .glo "reached_letters", .glo "letters_fault", .glo "are_letters_known", .glo "book_fault", .glo "want", .glo "known_letters", .glo "is_thing_of", .glo "is_rule_of", .glo "want_thing", .glo "put_in", .glo "with_rule", .glo "without_rule", .glo "moved_rule", .glo "mirrored_rule", .glo "mirrored", .glo "lets_book", .glo "places_of", .glo "results_of", .glo "steps_by", .glo "next_ones"] ++ [.glo "lies_at_most", .glo "is_at_most", .glo "next_ones_below", .glo "next_less", .glo "_law_tape", .glo "_law_draw", .glo "_law_pick", .glo "_law_signs", .glo "_law_rows", .glo "_law_norm", .glo "_law_page", .glo "_law_letters", .glo "_law_word", .glo "_law_places", .glo "_law_results", .glo "_law_steps", .glo "_law_mirrored", .glo "_law_are_steps", .glo "_law_is_put", .glo "_law_is_moved", .glo "_law_are_far", .glo "law", .glo "Book", .cls "Book", .mkr "Book", .meth "Book" "__call__", .noat "Book" "held_letters", .noat "Book" "held_rules", .glo "SIDES", .str "LOWERCASE" "abcdefghijklmnopqrstuvwxyz"] ++ [.free "isinstance", .free "len", .free "all", .free "zip", .free "enumerate", .free "range", .free "max", .free "sorted", .free "repr", .free "int", .free "str", .free "bool", .free "tuple", .free "list", .free "dict", .free "set"]
def loose0 : List PySem.Str := ["_wall", "__name__", "LOWERCASE", "SIDES", "is_integer", "is_number", "is_letter", "is_thing", "is_rising_row", "is_letter_set", "is_pair", "is_entry", "is_side", "is_rule", "reached_letters", "letters_fault", "are_letters_known", "book_fault", "FailError", "PaperError", "BookError", "TextError", "InvalidPaper", "NotUsable", "InvalidText", "want", "known_letters", "is_thing_of", "is_rule_of", "want_thing"]
def loose1 : List PySem.Str := ["put_in", "with_rule", "without_rule", "moved_rule", "mirrored_rule", "mirrored", "lets_book", "DIGITS", "MOST_DIGITS", "number_or_none", "Line", "taken_letter", "taken_side", "taken_lessers", "taken_number", "taken_put", "taken_rule", "entry_from", "rule_from", "book_read", "written_entry", "written_rule", "book_text", "places_of", "results_of", "steps_by", "Book", "next_ones", "lies_at_most", "is_at_most"]
def loose2 : List PySem.Str := ["next_ones_below", "next_less", "_law_tape", "_law_draw", "_law_pick", "_law_signs", "_law_rows", "_law_norm", "_law_page", "_law_letters", "_law_word", "_law_places", "_law_results", "_law_steps", "_law_mirrored", "_law_are_steps", "_law_is_put", "_law_is_moved", "_law_are_far"]
def loose : List PySem.Str := loose0 ++ loose1 ++ loose2
abbrev lawPlace : Nat := 89
abbrev R : PySem.W.OpenRow := PySem.W.OpenLaw.row PySem.Challenge.rw_firstfailing_k12_whole_rules_there_and_b
/-! the part of the heap that the end leans on: what the module's names name, what that names, the classes' methods and what they name -/
def valsOf (g : Addr → Option Obj) (a : Addr) : List Addr := match g a with
  | some o => He.refsD o
  | none => []
def nssOf (g : Addr → Option Obj) (a : Addr) : List Addr := match g a with
  | some ⟨_, _, .cls cd, _⟩ => [cd.ns]
  | _ => []
def myAs (g : Addr → Option Obj) : List Addr :=
  let A := valsOf g mainGlobals
  let M := (A.flatMap (nssOf g)).flatMap (valsOf g)
  mainGlobals :: (A ++ (A.flatMap (valsOf g) ++ (M ++ M.flatMap (valsOf g))))
def sidesB (K : PySem.W.Frag) : Bool := He.tupB K "SIDES" [.str "left", .str "right"]
def obF (K : PySem.W.Frag) : He.AlD := (sidesB K && (He.obsD fa fn K).1, (He.obsD fa fn K).2)
def obG (g : Addr → Option Obj) : He.AlD := obF (He.frG g (myAs g))
theorem obF_says {K : PySem.W.Frag} (e : obF K = He.valD fn) : sidesB K = true ∧ He.SaysD fa fn K := by
  have e1 : (sidesB K && (He.obsD fa fn K).1) = true := congrArg (fun z : He.AlD => z.1) e
  obtain ⟨h1, h2⟩ := He.ba e1
  have e2 := congrArg (fun z : He.AlD => z.2) e
  exact ⟨h1, Prod.ext h2 e2⟩
def hk : PySem.W.Hook where
  α := He.AlD
  obs := fun s => obG s.heap.get?
  val := fun _ => He.valD fn
  says := fun _ h => ∃ K : PySem.W.Frag, K.In h ∧ sidesB K = true ∧ He.SaysD fa fn K
  of := fun _ _ e => ⟨_, He.frG_in, obF_says e⟩
  keeps := fun _ _ _ ⟨K, hK, c⟩ k => ⟨K, PySem.W.Frag.In.keeps hK k, c⟩
def ob (s : PySem.W.SharedT) : He.AlD := obG (HandSHeadRun.getT s)
theorem ob_eq (s : PySem.W.SharedT) : ob s = hk.obs s.abs := by
  have e : HandSHeadRun.getT s = s.abs.heap.get? := funext (HandSHeadRun.getT_eq s)
  unfold ob
  rw [e] <;> rfl
theorem run (w : World) : HandSHeadRun.RunEq R (PySem.W.view R.prog [lawPlace]) hk ob 20000 loose w := by
  intro os
  kernel_rfl
end Fk

set_option Elab.async false
set_option linter.all false
set_option maxRecDepth 100000
set_option maxHeartbeats 4000000
/-! Fk N: the names of the defs, by slots. -/
namespace Fk
open PySem PySem.Spec PyProof.Rows L2
abbrev N_is_integer : List Str := ["thing"]
theorem sc_is_integer : FnScope N_is_integer ["thing"] (defScope s_is_integer) := ⟨rfl, rfl, rfl, by decide +kernel, rfl, by decide +kernel, by decide +kernel⟩
abbrev N_is_number : List Str := ["thing"]
theorem sc_is_number : FnScope N_is_number ["thing"] (defScope s_is_number) := ⟨rfl, rfl, rfl, by decide +kernel, rfl, by decide +kernel, by decide +kernel⟩
abbrev N_is_letter : List Str := ["thing"]
theorem sc_is_letter : FnScope N_is_letter ["thing"] (defScope s_is_letter) := ⟨rfl, rfl, rfl, by decide +kernel, rfl, by decide +kernel, by decide +kernel⟩
abbrev N_is_thing : List Str := ["thing", "sign"]
theorem sc_is_thing : FnScope N_is_thing ["thing"] (defScope s_is_thing) := ⟨rfl, rfl, rfl, by decide +kernel, rfl, by decide +kernel, by decide +kernel⟩
abbrev N_is_rising_row : List Str := ["row", "one", "other"]
theorem sc_is_rising_row : FnScope N_is_rising_row ["row"] (defScope s_is_rising_row) := ⟨rfl, rfl, rfl, by decide +kernel, rfl, by decide +kernel, by decide +kernel⟩
abbrev N_is_letter_set : List Str := ["thing", "one"]
theorem sc_is_letter_set : FnScope N_is_letter_set ["thing"] (defScope s_is_letter_set) := ⟨rfl, rfl, rfl, by decide +kernel, rfl, by decide +kernel, by decide +kernel⟩
abbrev N_is_pair : List Str := ["thing"]
theorem sc_is_pair : FnScope N_is_pair ["thing"] (defScope s_is_pair) := ⟨rfl, rfl, rfl, by decide +kernel, rfl, by decide +kernel, by decide +kernel⟩
abbrev N_is_entry : List Str := ["thing"]
theorem sc_is_entry : FnScope N_is_entry ["thing"] (defScope s_is_entry) := ⟨rfl, rfl, rfl, by decide +kernel, rfl, by decide +kernel, by decide +kernel⟩
abbrev N_is_side : List Str := ["thing"]
theorem sc_is_side : FnScope N_is_side ["thing"] (defScope s_is_side) := ⟨rfl, rfl, rfl, by decide +kernel, rfl, by decide +kernel, by decide +kernel⟩
abbrev N_is_rule : List Str := ["thing", "word", "rest"]
theorem sc_is_rule : FnScope N_is_rule ["thing"] (defScope s_is_rule) := ⟨rfl, rfl, rfl, by decide +kernel, rfl, by decide +kernel, by decide +kernel⟩
abbrev N_reached_letters : List Str := ["lessers", "letter", "found", "waiting", "one"]
theorem sc_reached_letters : FnScope N_reached_letters ["lessers", "letter"] (defScope s_reached_letters) := ⟨rfl, rfl, rfl, by decide +kernel, rfl, by decide +kernel, by decide +kernel⟩
abbrev N_letters_fault : List Str := ["letters", "before", "i", "entry", "lessers", "letter", "own", "one"]
theorem sc_letters_fault : FnScope N_letters_fault ["letters"] (defScope s_letters_fault) := ⟨rfl, rfl, rfl, by decide +kernel, rfl, by decide +kernel, by decide +kernel⟩
abbrev N_are_letters_known : List Str := ["known", "rule", "letter"]
theorem sc_are_letters_known : FnScope N_are_letters_known ["known", "rule"] (defScope s_are_letters_known) := ⟨rfl, rfl, rfl, by decide +kernel, rfl, by decide +kernel, by decide +kernel⟩
abbrev N_book_fault : List Str := ["thing", "fault", "known", "r", "rule", "letter", "lessers"]
theorem sc_book_fault : FnScope N_book_fault ["thing"] (defScope s_book_fault) := ⟨rfl, rfl, rfl, by decide +kernel, rfl, by decide +kernel, by decide +kernel⟩
abbrev N_want : List Str := ["is_right", "word", "at"]
theorem sc_want : FnScope N_want ["is_right", "word", "at"] (defScope s_want) := ⟨rfl, rfl, rfl, by decide +kernel, rfl, by decide +kernel, by decide +kernel⟩
abbrev N_known_letters : List Str := ["book", "letter", "lessers"]
theorem sc_known_letters : FnScope N_known_letters ["book"] (defScope s_known_letters) := ⟨rfl, rfl, rfl, by decide +kernel, rfl, by decide +kernel, by decide +kernel⟩
abbrev N_is_thing_of : List Str := ["book", "thing", "known", "letter"]
theorem sc_is_thing_of : FnScope N_is_thing_of ["book", "thing"] (defScope s_is_thing_of) := ⟨rfl, rfl, rfl, by decide +kernel, rfl, by decide +kernel, by decide +kernel⟩
abbrev N_is_rule_of : List Str := ["book", "thing"]
theorem sc_is_rule_of : FnScope N_is_rule_of ["book", "thing"] (defScope s_is_rule_of) := ⟨rfl, rfl, rfl, by decide +kernel, rfl, by decide +kernel, by decide +kernel⟩
abbrev N_want_thing : List Str := ["word", "book", "thing"]
theorem sc_want_thing : FnScope N_want_thing ["word", "book", "thing"] (defScope s_want_thing) := ⟨rfl, rfl, rfl, by decide +kernel, rfl, by decide +kernel, by decide +kernel⟩
abbrev N_put_in : List Str := ["rules", "rule", "at"]
theorem sc_put_in : FnScope N_put_in ["rules", "rule", "at"] (defScope s_put_in) := ⟨rfl, rfl, rfl, by decide +kernel, rfl, by decide +kernel, by decide +kernel⟩
abbrev N_with_rule : List Str := ["book", "rule", "at"]
theorem sc_with_rule : FnScope N_with_rule ["book", "rule", "at"] (defScope s_with_rule) := ⟨rfl, rfl, rfl, by decide +kernel, rfl, by decide +kernel, by decide +kernel⟩
abbrev N_without_rule : List Str := ["book", "k"]
theorem sc_without_rule : FnScope N_without_rule ["book", "k"] (defScope s_without_rule) := ⟨rfl, rfl, rfl, by decide +kernel, rfl, by decide +kernel, by decide +kernel⟩
abbrev N_moved_rule : List Str := ["book", "k", "at", "rest"]
theorem sc_moved_rule : FnScope N_moved_rule ["book", "k", "at"] (defScope s_moved_rule) := ⟨rfl, rfl, rfl, by decide +kernel, rfl, by decide +kernel, by decide +kernel⟩
abbrev N_mirrored_rule : List Str := ["rule"]
theorem sc_mirrored_rule : FnScope N_mirrored_rule ["rule"] (defScope s_mirrored_rule) := ⟨rfl, rfl, rfl, by decide +kernel, rfl, by decide +kernel, by decide +kernel⟩
abbrev N_mirrored : List Str := ["book", "rule"]
theorem sc_mirrored : FnScope N_mirrored ["book"] (defScope s_mirrored) := ⟨rfl, rfl, rfl, by decide +kernel, rfl, by decide +kernel, by decide +kernel⟩
abbrev N_lets_book : List Str := ["thing", "fault"]
theorem sc_lets_book : FnScope N_lets_book ["thing"] (defScope s_lets_book) := ⟨rfl, rfl, rfl, by decide +kernel, rfl, by decide +kernel, by decide +kernel⟩
abbrev N_places_of : List Str := ["many", "side", "places"]
theorem sc_places_of : FnScope N_places_of ["many", "side"] (defScope s_places_of) := ⟨rfl, rfl, rfl, by decide +kernel, rfl, by decide +kernel, by decide +kernel⟩
abbrev N_results_of : List Str := ["lessers", "rule", "x", "n", "many", "places", "letter", "word", "side", "k", "less"]
theorem sc_results_of : FnScope N_results_of ["lessers", "rule", "x"] (defScope s_results_of) := ⟨rfl, rfl, rfl, by decide +kernel, rfl, by decide +kernel, by decide +kernel⟩
abbrev N_steps_by : List Str := ["lessers", "rules", "x", "found", "rule", "thing"]
theorem sc_steps_by : FnScope N_steps_by ["lessers", "rules", "x"] (defScope s_steps_by) := ⟨rfl, rfl, rfl, by decide +kernel, rfl, by decide +kernel, by decide +kernel⟩
abbrev N_next_ones : List Str := ["lessers", "letter", "own", "beyond", "other", "one"]
theorem sc_next_ones : FnScope N_next_ones ["lessers", "letter"] (defScope s_next_ones) := ⟨rfl, rfl, rfl, by decide +kernel, rfl, by decide +kernel, by decide +kernel⟩
abbrev N_lies_at_most : List Str := ["lessers", "u", "v", "at", "letter"]
theorem sc_lies_at_most : FnScope N_lies_at_most ["lessers", "u", "v"] (defScope s_lies_at_most) := ⟨rfl, rfl, rfl, by decide +kernel, rfl, by decide +kernel, by decide +kernel⟩
abbrev N_is_at_most : List Str := ["book", "u", "v"]
theorem sc_is_at_most : FnScope N_is_at_most ["book", "u", "v"] (defScope s_is_at_most) := ⟨rfl, rfl, rfl, by decide +kernel, rfl, by decide +kernel, by decide +kernel⟩
abbrev N_next_ones_below : List Str := ["lessers", "x", "found", "k", "letter", "less"]
theorem sc_next_ones_below : FnScope N_next_ones_below ["lessers", "x"] (defScope s_next_ones_below) := ⟨rfl, rfl, rfl, by decide +kernel, rfl, by decide +kernel, by decide +kernel⟩
abbrev N_next_less : List Str := ["book", "x"]
theorem sc_next_less : FnScope N_next_less ["book", "x"] (defScope s_next_less) := ⟨rfl, rfl, rfl, by decide +kernel, rfl, by decide +kernel, by decide +kernel⟩
abbrev N_law_tape : List Str := ["_law_script"]
theorem sc_law_tape : FnScope N_law_tape ["_law_script"] (defScope s_law_tape) := ⟨rfl, rfl, rfl, by decide +kernel, rfl, by decide +kernel, by decide +kernel⟩
abbrev N_law_draw : List Str := ["_law_tape_here", "_law_size", "_law_found", "_law_spot", "_law_cell", "_law_mixed"]
theorem sc_law_draw : FnScope N_law_draw ["_law_tape_here", "_law_size"] (defScope s_law_draw) := ⟨rfl, rfl, rfl, by decide +kernel, rfl, by decide +kernel, by decide +kernel⟩
abbrev N_law_pick : List Str := ["_law_tape_here", "_law_rows_here"]
theorem sc_law_pick : FnScope N_law_pick ["_law_tape_here", "_law_rows_here"] (defScope s_law_pick) := ⟨rfl, rfl, rfl, by decide +kernel, rfl, by decide +kernel, by decide +kernel⟩
abbrev N_law_signs : List Str := ["_law_tape_here", "_law_size", "_law_pool", "_law_start", "_law_stride", "_law_k"]
theorem sc_law_signs : FnScope N_law_signs ["_law_tape_here", "_law_size"] (defScope s_law_signs) := ⟨rfl, rfl, rfl, by decide +kernel, rfl, by decide +kernel, by decide +kernel⟩
abbrev N_law_rows : List Str := ["_law_tape_here", "_law_signs_here", "_law_way", "_law_rows_here", "_law_k", "_law_lower", "_law_j"]
theorem sc_law_rows : FnScope N_law_rows ["_law_tape_here", "_law_signs_here"] (defScope s_law_rows) := ⟨rfl, rfl, rfl, by decide +kernel, rfl, by decide +kernel, by decide +kernel⟩
abbrev N_law_norm : List Str := ["_law_tape_here", "_law_signs_here", "_law_way", "_law_side", "_law_sign", "_law_word_here", "_law_k"]
theorem sc_law_norm : FnScope N_law_norm ["_law_tape_here", "_law_signs_here"] (defScope s_law_norm) := ⟨rfl, rfl, rfl, by decide +kernel, rfl, by decide +kernel, by decide +kernel⟩
abbrev N_law_page : List Str := ["_law_tape_here", "_law_bound", "_law_norms", "_law_signs_here", "_law_rows_here", "_law_k"]
theorem sc_law_page : FnScope N_law_page ["_law_tape_here", "_law_bound", "_law_norms"] (defScope s_law_page) := ⟨rfl, rfl, rfl, by decide +kernel, rfl, by decide +kernel, by decide +kernel⟩
abbrev N_law_letters : List Str := ["_law_page_here", "_law_row"]
theorem sc_law_letters : FnScope N_law_letters ["_law_page_here"] (defScope s_law_letters) := ⟨rfl, rfl, rfl, by decide +kernel, rfl, by decide +kernel, by decide +kernel⟩
abbrev N_law_word : List Str := ["_law_tape_here", "_law_signs_here", "_law_bound", "_law_size", "_law_k"]
theorem sc_law_word : FnScope N_law_word ["_law_tape_here", "_law_signs_here", "_law_bound"] (defScope s_law_word) := ⟨rfl, rfl, rfl, by decide +kernel, rfl, by decide +kernel, by decide +kernel⟩
abbrev N_law_places : List Str := ["_law_many", "_law_side", "_law_found"]
theorem sc_law_places : FnScope N_law_places ["_law_many", "_law_side"] (defScope s_law_places) := ⟨rfl, rfl, rfl, by decide +kernel, rfl, by decide +kernel, by decide +kernel⟩
abbrev N_law_results : List Str := ["_law_rows_here", "_law_norm_here", "_law_word_here", "_law_size", "_law_spots", "_law_found", "_law_table", "_law_k", "_law_lower"]
theorem sc_law_results : FnScope N_law_results ["_law_rows_here", "_law_norm_here", "_law_word_here"] (defScope s_law_results) := ⟨rfl, rfl, rfl, by decide +kernel, rfl, by decide +kernel, by decide +kernel⟩
abbrev N_law_steps : List Str := ["_law_page_here", "_law_word_here", "_law_found", "_law_norm_here", "_law_late"]
theorem sc_law_steps : FnScope N_law_steps ["_law_page_here", "_law_word_here"] (defScope s_law_steps) := ⟨rfl, rfl, rfl, by decide +kernel, rfl, by decide +kernel, by decide +kernel⟩
abbrev N_law_mirrored : List Str := ["_law_norm_here"]
theorem sc_law_mirrored : FnScope N_law_mirrored ["_law_norm_here"] (defScope s_law_mirrored) := ⟨rfl, rfl, rfl, by decide +kernel, rfl, by decide +kernel, by decide +kernel⟩
abbrev N_law_are_steps : List Str := ["_law_page_here", "_law_words", "_law_one", "_law_word_here"]
theorem sc_law_are_steps : FnScope N_law_are_steps ["_law_page_here", "_law_words"] (defScope s_law_are_steps) := ⟨rfl, rfl, rfl, by decide +kernel, rfl, by decide +kernel, by decide +kernel⟩
abbrev N_law_is_put : List Str := ["_law_page_here", "_law_norm_here", "_law_words", "_law_i", "_law_late"]
theorem sc_law_is_put : FnScope N_law_is_put ["_law_page_here", "_law_norm_here", "_law_words"] (defScope s_law_is_put) := ⟨rfl, rfl, rfl, by decide +kernel, rfl, by decide +kernel, by decide +kernel⟩
abbrev N_law_is_moved : List Str := ["_law_page_here", "_law_words", "_law_i", "_law_j", "_law_late"]
theorem sc_law_is_moved : FnScope N_law_is_moved ["_law_page_here", "_law_words"] (defScope s_law_is_moved) := ⟨rfl, rfl, rfl, by decide +kernel, rfl, by decide +kernel, by decide +kernel⟩
abbrev N_law_are_far : List Str := ["_law_norms", "_law_page_here", "_law_flat", "_law_words"]
theorem sc_law_are_far : FnScope N_law_are_far [] (defScope s_law_are_far) := ⟨rfl, rfl, rfl, by decide +kernel, rfl, by decide +kernel, by decide +kernel⟩
abbrev N_law : List Str := ["_law_script", "_law_tape_here", "_law_lap", "_law_page_here", "_law_known", "_law_kept", "_law_words", "_law_norm_here", "_law_turned", "_law_late", "_law_told", "_law_due", "_law_i"]
theorem sc_law : FnScope N_law ["_law_script"] (defScope s_law) := ⟨rfl, rfl, rfl, by decide +kernel, rfl, by decide +kernel, by decide +kernel⟩
abbrev N_Book__init__ : List Str := ["self", "letters", "rules"]
theorem sc_Book__init__ : FnScope N_Book__init__ ["self", "letters", "rules"] (defScope s_Book__init__) := ⟨rfl, rfl, rfl, by decide +kernel, rfl, by decide +kernel, by decide +kernel⟩
abbrev N_Book__call__ : List Str := ["self", "x"]
theorem sc_Book__call__ : FnScope N_Book__call__ ["self", "x"] (defScope s_Book__call__) := ⟨rfl, rfl, rfl, by decide +kernel, rfl, by decide +kernel, by decide +kernel⟩
end Fk

set_option Elab.async false
set_option linter.all false
set_option maxRecDepth 100000
set_option maxHeartbeats 4000000
/-! Fk D: books at addresses. -/
namespace Fk
open PySem PySem.Spec PyProof.Rows L2

/-- a letter as a value -/
def lv (c : Nat) : V := .str (tx [c])
/-- a thing as a value -/
def wv (x : Wd) : V := .str (tx x)
section
variable {K : PySem.W.Frag} {H H' : Hp}
theorem sqT_ext {a : Addr} {xs : List V} (e : Same H H') (h : SqT K H a xs) : SqT K H' a xs := by
  rcases h with (h | ⟨o, h⟩) | h
  · exact .inl (.inl (e _ _ h))
  · exact .inl (.inr ⟨o, e _ _ h⟩)
  · exact .inr h
theorem plT_ext {a : Addr} {xs : List V} (e : Same H H') (h : PlT H a xs) : PlT H' a xs := by
  obtain ⟨o, h1, h2⟩ := h
  exact ⟨o, e _ _ h1, h2⟩
mutual
theorem dp_ext (e : Same H H') : ∀ (d : PyData) (v : V), Dp K H v d → Dp K H' v d
  | .none, _, h => by cases h; exact .non
  | .bool b, _, h => by cases h; exact .bl b
  | .int i, _, h => by cases h; exact .int i
  | .str x, _, h => by cases h; exact .str x
  | .list ds, _, h => by
    cases h with
    | lst hs ha => exact .lst (e.seq hs) (dpA_ext e ds _ ha)
  | .tuple ds, _, h => by
    cases h with
    | tup hs ha => exact .tup (sqT_ext e hs) (dpA_ext e ds _ ha)
  | .dict _, _, h => by cases h
theorem dpA_ext (e : Same H H') : ∀ (ds : List PyData) (vs : List V), DpAll K H vs ds → DpAll K H' vs ds
  | [], _, h => by cases h; exact .nil
  | d :: ds, _, h => by
    cases h with
    | cons h1 h2 => exact .cons (dp_ext e d _ h1) (dpA_ext e ds _ h2)
end
/-- a heap where all but the thing at t stands as before -/
def SameBut (t : Addr) (H H' : Hp) : Prop := ∀ b o, b ≠ t → H b = some o → H' b = some o
theorem SameBut.refl (t : Addr) (H : Hp) : SameBut t H H := fun _ _ _ h => h
theorem SameBut.trans {t : Addr} {H H1 H2 : Hp} (a : SameBut t H H1) (b : SameBut t H1 H2) : SameBut t H H2 := fun c o n h => b c o n (a c o n h)
theorem SameBut.of {t : Addr} {H H1 : Hp} (a : Same H H1) : SameBut t H H1 := fun c o n h => a c o h
theorem sqT_but {t a : Addr} {xs ys : List V} (e : SameBut t H H') (ht : H t = some (.lst ys)) (h : SqT K H a xs) : SqT K H' a xs := by
  rcases h with (h | ⟨o, h⟩) | h
  · exact .inl (.inl (e _ _ (ne_of h ht (by intro z; cases z)) h))
  · exact .inl (.inr ⟨o, e _ _ (ne_of h ht (by intro z; cases z)) h⟩)
  · exact .inr h
theorem plT_but {t a : Addr} {xs ys : List V} (e : SameBut t H H') (ht : H t = some (.lst ys)) (h : PlT H a xs) : PlT H' a xs := by
  obtain ⟨o, h1, h2⟩ := h
  exact ⟨o, e _ _ (ne_of h1 ht (by intro z; cases z)) h1, h2⟩
mutual
/-- data without lists -/
def noL : PyData → Prop
  | .list _ => False
  | .tuple ds => noLA ds
  | _ => True
def noLA : List PyData → Prop
  | [] => True
  | d :: ds => noL d ∧ noLA ds
end
mutual
theorem dp_but {t : Addr} {ys : List V} (e : SameBut t H H') (ht : H t = some (.lst ys)) : ∀ (d : PyData) (v : V), noL d → Dp K H v d → Dp K H' v d
  | .none, _, _, h => by cases h; exact .non
  | .bool b, _, _, h => by cases h; exact .bl b
  | .int i, _, _, h => by cases h; exact .int i
  | .str x, _, _, h => by cases h; exact .str x
  | .list ds, _, n, h => n.elim
  | .tuple ds, _, n, h => by
    cases h with
    | tup hs ha => exact .tup (sqT_but e ht hs) (dpA_but e ht ds _ n ha)
  | .dict _, _, _, h => by cases h
theorem dpA_but {t : Addr} {ys : List V} (e : SameBut t H H') (ht : H t = some (.lst ys)) : ∀ (ds : List PyData) (vs : List V), noLA ds → DpAll K H vs ds → DpAll K H' vs ds
  | [], _, _, h => by cases h; exact .nil
  | d :: ds, _, n, h => by
    cases h with
    | cons h1 h2 => exact .cons (dp_but e ht d _ n.1 h1) (dpA_but e ht ds _ n.2 h2)
end
/-! ### what data is made of -/
theorem dp_tup {v : V} {ds : List PyData} (h : Dp K H v (.tuple ds)) : ∃ a xs, v = .ref a ∧ SqT K H a xs ∧ DpAll K H xs ds := by
  cases h with
  | tup hs ha => exact ⟨_, _, rfl, hs, ha⟩
theorem dp_str {v : V} {x : Str} (h : Dp K H v (.str x)) : v = .str x := by cases h; rfl
theorem dp_int {v : V} {i : Int} (h : Dp K H v (.int i)) : v = .int i := by cases h; rfl
theorem dpA_nil {vs : List V} (h : DpAll K H vs []) : vs = [] := by cases h; rfl
theorem dpA_cons {vs : List V} {d : PyData} {ds : List PyData} (h : DpAll K H vs (d :: ds)) : ∃ v us, vs = v :: us ∧ Dp K H v d ∧ DpAll K H us ds := by
  cases h with
  | cons h1 h2 => exact ⟨_, _, rfl, h1, h2⟩
theorem dpA_len : ∀ {vs : List V} {ds : List PyData}, DpAll K H vs ds → vs.length = ds.length
  | _, _, .nil => rfl
  | _, _, .cons _ t => by rw [List.length_cons, List.length_cons, dpA_len t]
theorem dpA_app : ∀ {vs us : List V} {ds es : List PyData}, DpAll K H vs ds → DpAll K H us es → DpAll K H (vs ++ us) (ds ++ es)
  | _, _, _, _, .nil, g => g
  | _, _, _, _, .cons h t, g => .cons h (dpA_app t g)
theorem dpA_take : ∀ (n : Nat) {vs : List V} {ds : List PyData}, DpAll K H vs ds → DpAll K H (vs.take n) (ds.take n)
  | 0, _, _, _ => .nil
  | n + 1, _, _, .nil => .nil
  | n + 1, _, _, .cons h t => .cons h (dpA_take n t)
theorem dpA_drop : ∀ (n : Nat) {vs : List V} {ds : List PyData}, DpAll K H vs ds → DpAll K H (vs.drop n) (ds.drop n)
  | 0, _, _, h => h
  | n + 1, _, _, .nil => .nil
  | n + 1, _, _, .cons h t => dpA_drop n t
theorem dpA_get : ∀ {vs : List V} {ds : List PyData} {i : Nat} {d : PyData}, DpAll K H vs ds → ds[i]? = some d → ∃ v, vs[i]? = some v ∧ Dp K H v d
  | _, _, 0, d, .cons h t, e => by cases e; exact ⟨_, rfl, h⟩
  | _, _, i + 1, d, .cons h t, e => dpA_get (i := i) t e
theorem dpA_getV : ∀ {vs : List V} {ds : List PyData} {i : Nat} {v : V}, DpAll K H vs ds → vs[i]? = some v → ∃ d, ds[i]? = some d ∧ Dp K H v d
  | _, _, 0, d, .cons h t, e => by cases e; exact ⟨_, rfl, h⟩
  | _, _, i + 1, d, .cons h t, e => dpA_getV (i := i) t e
theorem dpA_lv : ∀ {cs : List Nat} {vs : List V}, DpAll K H vs (cs.map fun c => dW [c]) → vs = cs.map lv
  | [], _, h => dpA_nil h
  | c :: cs, _, h => by
    obtain ⟨v, us, rfl, h1, h2⟩ := dpA_cons h
    rw [dp_str h1, dpA_lv h2]
    rfl
theorem dpA_ofLv : ∀ (cs : List Nat), DpAll K H (cs.map lv) (cs.map fun c => dW [c])
  | [] => .nil
  | c :: cs => .cons (.str _) (dpA_ofLv cs)
theorem dpA_wv : ∀ (ws : List Wd), DpAll K H (ws.map wv) (ws.map dW)
  | [] => .nil
  | c :: cs => .cons (.str _) (dpA_wv cs)
/-- an entry (letter, lessers) -/
theorem dp_entry {v : V} {e : Nat × List Nat} (h : Dp K H v (dE e)) : ∃ a b, v = .ref a ∧ SqT K H a [lv e.1, .ref b] ∧ SqT K H b (e.2.map lv) := by
  obtain ⟨a, xs, rfl, h1, h2⟩ := dp_tup h
  obtain ⟨v1, us, rfl, h3, h4⟩ := dpA_cons h2
  obtain ⟨v2, us, rfl, h5, h6⟩ := dpA_cons h4
  rw [dpA_nil h6] at h1
  obtain ⟨b, ys, rfl, h7, h8⟩ := dp_tup h5
  rw [dpA_lv h8] at h7
  rw [dp_str h3] at h1
  exact ⟨a, b, rfl, h1, h7⟩
theorem dp_ofEntry {a b : Addr} {e : Nat × List Nat} (h : SqT K H a [lv e.1, .ref b]) (h2 : SqT K H b (e.2.map lv)) : Dp K H (.ref a) (dE e) :=
  .tup h (.cons (.str _) (.cons (.tup h2 (dpA_ofLv _)) .nil))

/-! ### letters, rules, books -/
def LtAt (K : PySem.W.Frag) (H : Hp) (l : Addr) (L : Lts) : Prop := ∃ ls : List V, PlT H l ls ∧ DpAll K H ls (L.map dE)
def RsAt (K : PySem.W.Frag) (H : Hp) (r : Addr) (R : List Rl) : Prop := ∃ rs : List V, SqT K H r rs ∧ DpAll K H rs (R.map dR)
def Bk (K : PySem.W.Frag) (H : Hp) (b : Addr) (L : Lts) (R : List Rl) : Prop := ∃ l r, SqT K H b [.ref l, .ref r] ∧ LtAt K H l L ∧ RsAt K H r R
theorem LtAt.ext {l : Addr} {L : Lts} (e : Same H H') (h : LtAt K H l L) : LtAt K H' l L := by
  obtain ⟨ls, h1, h2⟩ := h
  exact ⟨ls, plT_ext e h1, dpA_ext e _ _ h2⟩
theorem RsAt.ext {l : Addr} {R : List Rl} (e : Same H H') (h : RsAt K H l R) : RsAt K H' l R := by
  obtain ⟨ls, h1, h2⟩ := h
  exact ⟨ls, sqT_ext e h1, dpA_ext e _ _ h2⟩
theorem Bk.ext {b : Addr} {L : Lts} {R : List Rl} (e : Same H H') (h : Bk K H b L R) : Bk K H' b L R := by
  obtain ⟨l, r, h1, h2, h3⟩ := h
  exact ⟨l, r, sqT_ext e h1, h2.ext e, h3.ext e⟩
theorem LtAt.dp {l : Addr} {L : Lts} (h : LtAt K H l L) : Dp K H (.ref l) (dL L) := by
  obtain ⟨ls, h1, h2⟩ := h
  exact .tup h1.sq h2
theorem RsAt.dp {l : Addr} {R : List Rl} (h : RsAt K H l R) : Dp K H (.ref l) (dRs R) := by
  obtain ⟨ls, h1, h2⟩ := h
  exact .tup h1 h2
theorem Bk.dp {b : Addr} {L : Lts} {R : List Rl} (h : Bk K H b L R) : Dp K H (.ref b) (dB L R) := by
  obtain ⟨l, r, h1, h2, h3⟩ := h
  exact .tup h1 (.cons h2.dp (.cons h3.dp .nil))
theorem noLA_of : ∀ {ds : List PyData}, (∀ d ∈ ds, noL d) → noLA ds
  | [], _ => trivial
  | d :: ds, h => ⟨h d List.mem_cons_self, noLA_of fun x hx => h x (List.mem_cons_of_mem _ hx)⟩
theorem noL_dE (e : Nat × List Nat) : noL (dE e) := ⟨trivial, noLA_of fun d hd => by
  obtain ⟨c, _, rfl⟩ := List.mem_map.mp hd
  trivial, trivial⟩
theorem noL_dR (r : Rl) : noL (dR r) := by cases r <;> simp [dR, noL, noLA, dW]
theorem noLA_dL (L : Lts) : noLA (L.map dE) := noLA_of fun d hd => by
  obtain ⟨c, _, rfl⟩ := List.mem_map.mp hd
  exact noL_dE c
theorem noLA_dRs (R : List Rl) : noLA (R.map dR) := noLA_of fun d hd => by
  obtain ⟨c, _, rfl⟩ := List.mem_map.mp hd
  exact noL_dR c
theorem LtAt.but {t l : Addr} {L : Lts} {ys : List V} (e : SameBut t H H') (ht : H t = some (.lst ys)) (h : LtAt K H l L) : LtAt K H' l L := by
  obtain ⟨ls, h1, h2⟩ := h
  exact ⟨ls, plT_but e ht h1, dpA_but e ht _ _ (noLA_dL L) h2⟩
theorem RsAt.but {t l : Addr} {R : List Rl} {ys : List V} (e : SameBut t H H') (ht : H t = some (.lst ys)) (h : RsAt K H l R) : RsAt K H' l R := by
  obtain ⟨ls, h1, h2⟩ := h
  exact ⟨ls, sqT_but e ht h1, dpA_but e ht _ _ (noLA_dRs R) h2⟩
theorem Bk.but {t b : Addr} {L : Lts} {R : List Rl} {ys : List V} (e : SameBut t H H') (ht : H t = some (.lst ys)) (h : Bk K H b L R) : Bk K H' b L R := by
  obtain ⟨l, r, h1, h2, h3⟩ := h
  exact ⟨l, r, sqT_but e ht h1, h2.but e ht, h3.but e ht⟩
theorem same_upd {a : Addr} {o : HO} (n : H a = none) : Same H (upd H a o) := fun b u e => by rw [upd_ne (ne_of_none e n)]; exact e

theorem same_put {a : Addr} {o : HO} (e : Same H H') (n : H a = none) : Same H (upd H' a o) := fun b u h => by rw [upd_ne (ne_of_none h n)]; exact e _ _ h
/-! ### dicts of lessers -/
def DK (K : PySem.W.Frag) (H : Hp) : List (Key × V) → Lts → Prop
  | [], [] => True
  | kv :: kvs, e :: L => kv.1 = .inr (tx [e.1]) ∧ (∃ a, kv.2 = .ref a ∧ SqT K H a (e.2.map lv)) ∧ DK K H kvs L
  | _, _ => False
def DictL (K : PySem.W.Frag) (H : Hp) (d : Addr) (L : Lts) : Prop := ∃ kvs, H d = some (.dK kvs) ∧ DK K H kvs L
theorem DK.ext (e : Same H H') : ∀ {kvs : List (Key × V)} {L : Lts}, DK K H kvs L → DK K H' kvs L
  | [], [], _ => trivial
  | kv :: kvs, x :: L, ⟨h1, ⟨a, h2, h3⟩, h4⟩ => ⟨h1, ⟨a, h2, sqT_ext e h3⟩, DK.ext e h4⟩
  | [], _ :: _, h => h.elim
  | _ :: _, [], h => h.elim
theorem DictL.ext {d : Addr} {L : Lts} (e : Same H H') (h : DictL K H d L) : DictL K H' d L := by
  obtain ⟨kvs, h1, h2⟩ := h
  exact ⟨kvs, e _ _ h1, h2.ext e⟩
theorem tx_inj {a b : List Nat} (h : tx a = tx b) : a = b := by
  have := congrArg (fun s : Str => s.cps.toList) h
  simpa [tx] using this
theorem DK.find : ∀ {kvs : List (Key × V)} {L : Lts} {c : Nat}, DK K H kvs L → c ∈ names L → (names L).Nodup → ∃ a, valV kvs (Sum.inr (tx [c])) = some (.ref a) ∧ SqT K H a ((lsOf L c).map lv)
  | [], [], _, _, h, _ => nomatch h
  | kv :: kvs, x :: L, c, ⟨h1, ⟨a, h2, h3⟩, h4⟩, hc, nd => by
    unfold names at nd
    rw [List.map_cons, List.nodup_cons] at nd
    by_cases hx : x.1 = c
    · subst hx
      rw [lsOf_mem (e := x) (by unfold names; rw [List.map_cons, List.nodup_cons]; exact nd) List.mem_cons_self]
      exact ⟨a, by rw [valV_pos h1, h2], h3⟩
    · have hc' : c ∈ names L := by
        unfold names at hc ⊢
        rw [List.map_cons] at hc
        rcases List.mem_cons.mp hc with z | z
        · exact absurd z.symm hx
        · exact z
      obtain ⟨b, q1, q2⟩ := DK.find h4 hc' nd.2
      have hk : ¬ kv.1 = Sum.inr (tx [c]) := fun z => by
        rw [h1] at z
        have := tx_inj (Sum.inr.inj z)
        exact hx (List.cons.inj this).1
      refine ⟨b, by rw [valV_neg hk]; exact q1, ?_⟩
      have : lsOf (x :: L) c = lsOf L c := by
        unfold lsOf
        rw [List.find?_cons_of_neg (by simpa using hx)]
      rw [this]
      exact q2
  | [], _ :: _, _, h, _, _ => h.elim
  | _ :: _, [], _, h, _, _ => h.elim
theorem DK.none : ∀ {kvs : List (Key × V)} {L : Lts} {c : Nat}, DK K H kvs L → c ∉ names L → valV kvs (Sum.inr (tx [c])) = Option.none
  | [], [], _, _, _ => rfl
  | kv :: kvs, x :: L, c, ⟨h1, _, h4⟩, hc => by
    unfold names at hc
    rw [List.map_cons, List.mem_cons, not_or] at hc
    have hk : ¬ kv.1 = Sum.inr (tx [c]) := fun z => by
      rw [h1] at z
      have := tx_inj (Sum.inr.inj z)
      exact hc.1 (List.cons.inj this).1.symm
    rw [valV_neg hk]
    exact DK.none h4 hc.2
  | [], _ :: _, _, h, _ => h.elim
  | _ :: _, [], _, h, _ => h.elim
theorem DK.snoc : ∀ {kvs : List (Key × V)} {L : Lts} {kv : Key × V} {e : Nat × List Nat}, DK K H kvs L → kv.1 = .inr (tx [e.1]) → (∃ a, kv.2 = .ref a ∧ SqT K H a (e.2.map lv)) → DK K H (kvs ++ [kv]) (L ++ [e])
  | [], [], _, _, _, h1, h2 => ⟨h1, h2, trivial⟩
  | k :: kvs, x :: L, _, _, ⟨h1, h2, h4⟩, g1, g2 => ⟨h1, h2, DK.snoc h4 g1 g2⟩
  | [], _ :: _, _, _, h, _, _ => h.elim
  | _ :: _, [], _, _, h, _, _ => h.elim
/-- a new key goes to the end -/
theorem DK.put {kvs : List (Key × V)} {L : Lts} {e : Nat × List Nat} {a : Addr} (h : DK K H kvs L) (n : e.1 ∉ names L) (ha : SqT K H a (e.2.map lv)) : DK K H (putK kvs (.inr (tx [e.1])) (.ref a)) (L ++ [e]) := by
  have q := h.none n
  have : putK kvs (.inr (tx [e.1])) (.ref a) = kvs ++ [(.inr (tx [e.1]), .ref a)] := by
    unfold putK
    rw [valV_any, q]
    rfl
  rw [this]
  exact h.snoc rfl ⟨a, rfl, ha⟩
/-- a store at a dict leaves the tuples -/
theorem sqT_new {D a : Addr} {kvs kvs' : List (Key × V)} {xs : List V} (h : SqT K H a xs) (hD : H D = some (.dK kvs)) : SqT K (upd H D (.dK kvs')) a xs := by
  rcases h with (h | ⟨o, h⟩) | h
  · exact .inl (.inl (by rw [upd_ne (ne_of h hD (by intro z; cases z))]; exact h))
  · exact .inl (.inr ⟨o, by rw [upd_ne (ne_of h hD (by intro z; cases z))]; exact h⟩)
  · exact .inr h
theorem DK.to : ∀ {kvs : List (Key × V)} {L : Lts}, DK K H kvs L → (∀ a xs, SqT K H a xs → SqT K H' a xs) → DK K H' kvs L
  | [], [], _, _ => trivial
  | kv :: kvs, x :: L, ⟨h1, ⟨a, h2, h3⟩, h4⟩, e => ⟨h1, ⟨a, h2, e _ _ h3⟩, DK.to h4 e⟩
  | [], _ :: _, h, _ => h.elim
  | _ :: _, [], h, _ => h.elim
theorem DK.len : ∀ {kvs : List (Key × V)} {L : Lts}, DK K H kvs L → kvs.length = L.length
  | [], [], _ => rfl
  | k :: kvs, x :: L, ⟨_, _, h4⟩ => by rw [List.length_cons, List.length_cons, DK.len h4]
  | [], _ :: _, h => h.elim
  | _ :: _, [], h => h.elim
/-- dict(letters): the pairs as they stand -/
theorem DK.merge : ∀ {ls : List V} {L M : Lts} {kvs : List (Key × V)}, DpAll K H ls (L.map dE) → DK K H kvs M → (names (M ++ L)).Nodup →
    ∃ (ps : List Addr) (prs : List (Key × V)), ls = ps.map V.ref ∧ Paired (fun p kv => SqT K H p [kV kv.1, kv.2]) ps prs ∧ DK K H (mergeK kvs prs) (M ++ L)
  | _, [], M, kvs, h, hk, nd => by
    rw [dpA_nil h, List.append_nil]
    exact ⟨[], [], rfl, .nil, hk⟩
  | _, e :: L, M, kvs, h, hk, nd => by
    obtain ⟨v, us, rfl, h1, h2⟩ := dpA_cons h
    obtain ⟨a, b, rfl, h3, h4⟩ := dp_entry h1
    have hn : e.1 ∉ names M := fun z => by
      unfold names at nd z
      rw [List.map_append, List.nodup_append] at nd
      exact nd.2.2 _ z _ (by rw [List.map_cons]; exact List.mem_cons_self) rfl
    have nd' : (names ((M ++ [e]) ++ L)).Nodup := by
      rw [List.append_assoc]
      exact nd
    obtain ⟨ps, prs, e1, e2, e3⟩ := DK.merge h2 (hk.put hn h4) nd'
    refine ⟨a :: ps, (.inr (tx [e.1]), .ref b) :: prs, by rw [e1]; rfl, .cons h3 e2, ?_⟩
    rw [List.append_assoc] at e3
    exact e3
end
end Fk

set_option Elab.async false
set_option linter.all false
set_option maxRecDepth 100000
set_option maxHeartbeats 4000000
/-! Fk L: comprehensions that leave all else as it was. -/
namespace Fk
open PySem PySem.Spec PyProof.Rows L2
/-- the new list at D holds out i, all else of H1 stands -/
def LcP (H1 : Hp) (D : Addr) (out : Nat → List V) (i : Nat) (H : Hp) : Prop := Same H1 H ∧ H D = some (.lst (out i))
section
variable {H1 H H' : Hp} {D : Addr} {out : Nat → List V} {i : Nat} {y : V}
theorem LcP.start (n : H1 D = none) (h0 : out 0 = []) : LcP H1 D out 0 (upd H1 D (.lst [])) := ⟨same_upd n, by rw [upd_same, h0]⟩
theorem LcP.add (n : H1 D = none) (p : LcP H1 D out i H) (e : Same H H') (ho : out (i + 1) = out i ++ [y]) (hz : (out i).length < 5000) : ∃ acc, H' D = some (.lst acc) ∧ acc.length < sizeLine ∧ LcP H1 D out (i + 1) (upd H' D (.lst (acc ++ [y]))) :=
  ⟨out i, e _ _ p.2, by rw [sizeLine_eq]; omega, fun b o h => by rw [upd_ne (ne_of_none h n)]; exact e _ _ (p.1 _ _ h), by rw [upd_same, ho]⟩
theorem LcP.skip (p : LcP H1 D out i H) (e : Same H H') (ho : out (i + 1) = out i) : LcP H1 D out (i + 1) H' := ⟨p.1.trans e, by rw [ho]; exact e _ _ p.2⟩
theorem YPair.same {xs ys : Nat → Option V} {x : V} (h : YPair xs ys i H x H') : ∃ T a b, x = .ref T ∧ Same H H' ∧ SqT ([] : PySem.W.Frag) H' T [a, b] ∧ H' T = some (.tup [a, b]) ∧ xs i = some a ∧ ys i = some b := by
  obtain ⟨T, a, b, rfl, n, rfl, h1, h2⟩ := h
  exact ⟨T, a, b, rfl, same_upd n, .of upd_same, upd_same, h1, h2⟩
end
/-- what a row gives by turns -/
theorem map_take_succ {α β : Type} (f : α → β) (l : List α) {i : Nat} {x : α} (h : l[i]? = some x) : (l.take (i + 1)).map f = (l.take i).map f ++ [f x] := by
  rw [List.take_add_one, h, List.map_append]
  rfl
theorem iteD {p A B : Prop} [Decidable p] (h : p) (k : A) : if decide p = true then A else B := by
  rw [if_pos (decide_eq_true h)]
  exact k
theorem iteDN {p A B : Prop} [Decidable p] (h : ¬ p) (k : B) : if decide p = true then A else B := by
  rw [if_neg (fun z => h (of_decide_eq_true z))]
  exact k
theorem iteNT {p A B : Prop} [Decidable p] (h : ¬ p) (k : A) : if (!decide p) = true then A else B := by
  rw [decide_eq_false h]
  exact iteT k
theorem tx_len (x : Wd) : (tx x).length = x.length := by simp [tx, Str.length]
theorem tx_cps (x : Wd) : (tx x).cps.toList = x := by simp [tx]
theorem low_mem {c : Nat} (hc : lower26 c) : c ∈ ("abcdefghijklmnopqrstuvwxyz" : Str).cps.toList := by
  have e : ("abcdefghijklmnopqrstuvwxyz" : Str).cps.toList = (List.range 26).map (· + 97) := by decide +kernel
  rw [e]
  exact List.mem_map.mpr ⟨c - 97, List.mem_range.mpr (by unfold lower26 at hc; omega), by unfold lower26 at hc; omega⟩
/-! ### slices -/
theorem cutV_all {xs : List V} {lo hi : Option Int} (h : HT.sIx xs.length 0 lo = 0 ∧ HT.sIx xs.length xs.length hi = xs.length) : cutV xs lo hi = xs := by
  unfold cutV
  rw [h.1, h.2, List.drop_zero, Nat.sub_zero, List.take_length]
theorem cutV_from (xs : List V) (k : Nat) : cutV xs (some (k : Int)) none = xs.drop k := by
  unfold cutV
  rw [HT.sIx_nat, HT.sIx_none]
  by_cases h : k ≤ xs.length
  · rw [Nat.min_eq_left h, List.take_of_length_le (by rw [List.length_drop]; omega)]
  · rw [Nat.min_eq_right (by omega), List.drop_length, List.drop_of_length_le (by omega), List.take_nil]
theorem cutV_to (xs : List V) (k : Nat) : cutV xs none (some (k : Int)) = xs.take k := by
  unfold cutV
  rw [HT.sIx_nat, HT.sIx_none, List.drop_zero, Nat.sub_zero]
  by_cases h : k ≤ xs.length
  · rw [Nat.min_eq_left h]
  · rw [Nat.min_eq_right (by omega), List.take_length, List.take_of_length_le (by omega)]
theorem cutV_init (xs : List V) : cutV xs none (some (-1)) = xs.dropLast := by
  unfold cutV
  rw [HT.sIx_none, List.drop_zero, Nat.sub_zero, List.dropLast_eq_take]
  have : HT.sIx xs.length xs.length (some (-1)) = xs.length - 1 := by
    show (if (-1 : Int) < 0 then ((-1 : Int) + (xs.length : Int)).toNat else min (-1 : Int).toNat xs.length) = _
    rw [if_pos (by omega)]
    omega
  rw [this]
theorem cutV_last (xs : List V) : cutV xs (some (-1)) none = xs.drop (xs.length - 1) := by
  unfold cutV
  rw [HT.sIx_none]
  have : HT.sIx xs.length 0 (some (-1)) = xs.length - 1 := by
    show (if (-1 : Int) < 0 then ((-1 : Int) + (xs.length : Int)).toNat else min (-1 : Int).toNat xs.length) = _
    rw [if_pos (by omega)]
    omega
  rw [this, List.take_of_length_le (by rw [List.length_drop]; omega)]
theorem cutS_from (x : Wd) (k : Nat) : cutS (tx x) (some (k : Int)) none = tx (x.drop k) := by
  unfold cutS
  rw [HT.sIx_nat, HT.sIx_none, tx_len, tx_cps]
  by_cases h : k ≤ x.length
  · rw [Nat.min_eq_left h, List.take_of_length_le (by rw [List.length_drop]; omega)]
    rfl
  · rw [Nat.min_eq_right (by omega), List.drop_length, List.drop_of_length_le (by omega), List.take_nil]
    rfl
theorem cutS_to (x : Wd) (k : Nat) : cutS (tx x) none (some (k : Int)) = tx (x.take k) := by
  unfold cutS
  rw [HT.sIx_nat, HT.sIx_none, List.drop_zero, Nat.sub_zero, tx_len, tx_cps]
  by_cases h : k ≤ x.length
  · rw [Nat.min_eq_left h]
    rfl
  · rw [Nat.min_eq_right (by omega), ← tx_len, ← tx_cps x]
    rw [tx_cps, tx_len, List.take_length, List.take_of_length_le (by omega)]
    rfl
theorem tx_app (x y : Wd) : tx x ++ tx y = tx (x ++ y) := by
  refine str_ext ?_
  show ((tx x).cps ++ (tx y).cps).toList = _
  rw [Array.toList_append, tx_cps, tx_cps, tx_cps]
def rSlTS (K : PySem.W.Frag) : V → Option Int → Option Int → Hp → VK → Prop := fun x lo hi H Q => ∃ a xs, x = .ref a ∧ SqT K H a xs ∧ ∀ p H1, Same H H1 → SqT K H1 p (cutV xs lo hi) → Q (.ref p) H1
theorem sl_tupS {X : Cx} : SlR X (rSlTS X.K) := by
  intro pins s σ H x v vl vu lo hi sl Q I rx hs pl pu h
  obtain ⟨a, xs, rfl, hx, q⟩ := h
  refine sl_tupA pins s σ H _ v vl vu lo hi sl Q I rx hs pl pu ⟨a, xs, rfl, hx, fun hw => q a H (.refl _) (by rw [cutV_all hw]; exact hx), fun _ p np => q p _ (same_upd np) (.of upd_same)⟩
def rCatS (K : PySem.W.Frag) : R2 := fun x y H Q => ∃ a b xs ys, x = .ref a ∧ y = .ref b ∧ SqT K H a xs ∧ SqT K H b ys ∧ xs.length + ys.length ≤ 5000 ∧ ∀ p H1, Same H H1 → SqT K H1 p (xs ++ ys) → Q (.ref p) H1
theorem op_catS {X : Cx} : OpR X (binaryOp .Add) (rCatS X.K) := by
  intro pins s σ H x y v u Q I rx ry h
  obtain ⟨a, b, xs, ys, rfl, rfl, hx, hy, hz, q⟩ := h
  refine op_catA pins s σ H _ _ v u Q I rx ry ⟨a, b, xs, ys, rfl, rfl, hx, hy, by rw [sizeLine_eq]; omega, fun e => ?_, fun _ e => ?_, fun _ _ p np => q p _ (same_upd np) (.of upd_same)⟩
  · subst e
    exact q b H (.refl _) hy
  · subst e
    exact q a H (.refl _) (by rw [List.append_nil]; exact hx)
theorem walk_zipT2 {K : PySem.W.Frag} {a b : Addr} {xs ys : List V} {n : Nat} (hn : n = min xs.length ys.length) : Walk (RZ.ItzT K a b) n (fun H => SqT K H a xs ∧ SqT K H b ys) (YPair (fun i => xs[i]?) (fun i => ys[i]?)) := by
  subst hn
  refine ⟨fun i _ hi q => ?_, fun _ q => ⟨xs, ys, q.1, q.2, by omega⟩, fun i H v H' _ q y => ?_⟩
  · have h1 : i < xs.length := by omega
    have h2 : i < ys.length := by omega
    exact ⟨xs, ys, xs[i], ys[i], q.1, q.2, List.getElem?_eq_getElem h1, List.getElem?_eq_getElem h2⟩
  · obtain ⟨T, x, y, h1, h2, h3, h4, h5⟩ := y
    exact ⟨T, x, y, h1, h2, h3, h4 xs q.1, h5 ys q.2⟩
/-! ### rules that name K (in the block of a comprehension the reading may not name the block's own context) -/
section
variable {X : Cx} (K : PySem.W.Frag) (h : X.K = K)
include h
theorem ix_tupK : IxR X (rIxT K) := h ▸ ix_tup
theorem ix_listK : IxR X (rIxL K) := h ▸ ix_list
theorem sl_tupK : SlR X (rSlTS K) := h ▸ sl_tupS
theorem sl_listK : SlR X (rSlL K) := h ▸ sl_list
theorem in_seqK : OpR X (compareOp .In) (rIn K false) := h ▸ op_in_seq
theorem notIn_seqK : OpR X (compareOp .NotIn) (rIn K true) := h ▸ op_notIn_seq
theorem pg_tupK {es : List Expr} {k : Nat} {t : TGs} (n : Nat) {pos : Pos} (hc : X.calm = true) (hh : PGs X es t)
    (hn : (assignEach es X.env).length = n := by rfl) (hst : (assignEach es X.env).findIdx? (·.1) = none := by rfl) : PG X (.Tuple es k pos) (gTup K n t) := by
  subst h
  exact pg_tup hc hh hn hst
theorem pi_tupK {tg l : Expr} {tl : TE} (hl : PE X l tl) : PI X tg l (iTup K tl) := h ▸ pi_tup hl
theorem pi_listK {tg l : Expr} {tl : TE} (hl : PE X l tl) : PI X tg l (iList K tl) := h ▸ pi_list hl
end
theorem walk_enumT {K : PySem.W.Frag} {a : Addr} {xs : List V} : Walk (ItT K a) xs.length (fun H => SqT K H a xs) (YPair (fun i => some (.int (i : Nat))) (fun i => xs[i]?)) := by
  refine ⟨fun i _ hi q => ⟨xs, xs[i], q, List.getElem?_eq_getElem hi⟩, fun _ q => ⟨xs, q, rfl⟩, fun i H v H' _ q y => ?_⟩
  obtain ⟨T, x, h1, h2, h3, h4⟩ := y
  exact ⟨T, .int (i : Nat), x, h1, h2, h3, rfl, h4 xs q⟩
theorem walk_enumS {z : Str} : Walk (ItS z) z.cps.size (fun _ => True) (YPair (fun i => some (.int (i : Nat))) (fun i => z.cps[i]?.map fun c => .str ⟨#[c]⟩)) := by
  refine ⟨fun _ _ hi _ => hi, fun _ _ => rfl, fun i H v H' _ _ y => ?_⟩
  obtain ⟨T, c, h1, h2, h3, h4⟩ := y
  exact ⟨T, .int (i : Nat), .str ⟨#[c]⟩, h1, h2, h3, rfl, by
    show (z.cps[i]?.map fun c => V.str ⟨#[c]⟩) = _
    rw [h4]
    rfl⟩
theorem inV_lv {c : Nat} : ∀ {cs : List Nat}, inV (lv c) (cs.map lv) = decide (c ∈ cs)
  | [] => by simp [inV]
  | d :: cs => by
    have ih := inV_lv (c := c) (cs := cs)
    unfold inV at ih ⊢
    rw [List.map_cons, List.any_cons, ih]
    by_cases h : c = d
    · subst h
      simp [lv, eqV]
    · have : ¬ (tx [d] = tx [c]) := fun z => h (List.cons.inj (tx_inj z)).1.symm
      simp [lv, eqV, this, h]
theorem flat_lv (cs : List Nat) : (cs.map lv).all flatV = true := by
  rw [List.all_map, List.all_eq_true]
  exact fun _ _ => rfl
theorem inV_wv {x : Wd} : ∀ {cs : List Wd}, inV (wv x) (cs.map wv) = decide (x ∈ cs)
  | [] => by simp [inV]
  | d :: cs => by
    have ih := inV_wv (x := x) (cs := cs)
    unfold inV at ih ⊢
    rw [List.map_cons, List.any_cons, ih]
    by_cases h : x = d
    · subst h
      simp [wv, eqV]
    · have : ¬ (tx d = tx x) := fun z => h (tx_inj z).symm
      simp [wv, eqV, this, h]
theorem flat_wv (cs : List Wd) : (cs.map wv).all flatV = true := by
  rw [List.all_map, List.all_eq_true]
  exact fun _ _ => rfl
/-! ### a rule's items are plain -/
def rV : Rl → List V
  | .drop n l => [.str "drop", .int n, .str (sd l)]
  | .half l => [.str "half", .str (sd l)]
  | .empty => [.str "empty"]
  | .lower l => [.str "lower", .str (sd l)]
  | .put c w l => [.str "put", lv c, wv w, .str (sd l)]
theorem dp_rule {K : PySem.W.Frag} {H : Hp} {v : V} {r : Rl} (h : Dp K H v (dR r)) : ∃ a, v = .ref a ∧ SqT K H a (rV r) := by
  cases r with
  | drop n l =>
    obtain ⟨a, xs, rfl, h1, h2⟩ := dp_tup h
    obtain ⟨v1, us, rfl, h3, h2⟩ := dpA_cons h2
    obtain ⟨v2, us, rfl, h4, h2⟩ := dpA_cons h2
    obtain ⟨v3, us, rfl, h5, h2⟩ := dpA_cons h2
    rw [dpA_nil h2, dp_str h3, dp_int h4, dp_str h5] at h1
    exact ⟨a, rfl, h1⟩
  | half l =>
    obtain ⟨a, xs, rfl, h1, h2⟩ := dp_tup h
    obtain ⟨v1, us, rfl, h3, h2⟩ := dpA_cons h2
    obtain ⟨v2, us, rfl, h4, h2⟩ := dpA_cons h2
    rw [dpA_nil h2, dp_str h3, dp_str h4] at h1
    exact ⟨a, rfl, h1⟩
  | empty =>
    obtain ⟨a, xs, rfl, h1, h2⟩ := dp_tup h
    obtain ⟨v1, us, rfl, h3, h2⟩ := dpA_cons h2
    rw [dpA_nil h2, dp_str h3] at h1
    exact ⟨a, rfl, h1⟩
  | lower l =>
    obtain ⟨a, xs, rfl, h1, h2⟩ := dp_tup h
    obtain ⟨v1, us, rfl, h3, h2⟩ := dpA_cons h2
    obtain ⟨v2, us, rfl, h4, h2⟩ := dpA_cons h2
    rw [dpA_nil h2, dp_str h3, dp_str h4] at h1
    exact ⟨a, rfl, h1⟩
  | put c w l =>
    obtain ⟨a, xs, rfl, h1, h2⟩ := dp_tup h
    obtain ⟨v1, us, rfl, h3, h2⟩ := dpA_cons h2
    obtain ⟨v2, us, rfl, h4, h2⟩ := dpA_cons h2
    obtain ⟨v3, us, rfl, h5, h2⟩ := dpA_cons h2
    obtain ⟨v4, us, rfl, h6, h2⟩ := dpA_cons h2
    rw [dpA_nil h2, dp_str h3, dp_str h4, dp_str h5, dp_str h6] at h1
    exact ⟨a, rfl, h1⟩
theorem dp_ofRule {K : PySem.W.Frag} {H : Hp} {a : Addr} {r : Rl} (h : SqT K H a (rV r)) : Dp K H (.ref a) (dR r) := by
  cases r with
  | drop n l => exact .tup h (.cons (.str _) (.cons (.int _) (.cons (.str _) .nil)))
  | half l => exact .tup h (.cons (.str _) (.cons (.str _) .nil))
  | empty => exact .tup h (.cons (.str _) .nil)
  | lower l => exact .tup h (.cons (.str _) (.cons (.str _) .nil))
  | put c w l => exact .tup h (.cons (.str _) (.cons (.str _) (.cons (.str _) (.cons (.str _) .nil))))
theorem dgetL {H : Hp} {d : Addr} {kvs : List (Key × V)} {c : Nat} {v : V} (h : H d = some (.dK kvs)) (g : valV kvs (Sum.inr (tx [c])) = some v) : DGet H d (lv c) (some v) := by
  rw [← g]
  exact DGet.k (k := Sum.inr (tx [c])) h
/-- a def whose defaults are all filled up -/
theorem has_of1 {P : Program} {w : World} {K : PySem.W.Frag} {mg : Str → Option Value} {base : Heap} {x : Str} {st : Stmt} {N ps : List Str} {dvs : List V} {k : Nat} {sp : Sp} (n : Nat) (D : Def K mg x st dvs []) (S : FnScope N ps (defScope st)) (len : ∀ vs H Q E, sp vs H Q E → vs.length = ps.length)
    (hd : dvs ≠ []) (hn : n + (dvs.length - 0) = ps.length)
    (bnd : ∀ (T : Addr) (kV doc pm : Value) (an : Option Addr) (cdv ct : Value) (us its : List Value), us.length = n → its.length = dvs.length →
      ∃ k, bindArgs (PySem.W.fnOf x x (defArgs st) (defBody st) (defScope st) (.ref T) kV doc pm an cdv ct) ⟨us, []⟩ = seqItems? (.ref T) >>= k ∧ k (some its.toArray) = pure (ps.zip (us ++ its.drop 0)))
    (body : ∀ (f : Addr) (cdv : Value) (A : Around) (outer : List Env) (s : Shared) (H : Hp) (vs : List V) (Q : VK) (E : XK), Room k (A.deeper (envOfC x (defScope st) s.heap.objs.size f cdv)) → sp vs H Q E →
      ∃ t, PSs (cxOf CX0 P w K mg base N x (defScope st) f cdv A outer s H E).nox (defBody st) t ∧ t { nx := fun _ H' => Q .non H', rt := Q } (start N vs) H) : Has P w K mg base x dvs (k + 1) sp := by
  obtain ⟨f, fd, F, hm⟩ := D
  obtain ⟨ds, hds, hb⟩ := F.binds1 n 0 hd hn bnd
  rw [List.drop_zero] at hds
  refine ⟨f, fd, ps, ds, F.ok S len (fun cdv A outer s H vs Q E hr h => ?_), hm, F.kp, hb, hds⟩
  obtain ⟨t, h1, h2⟩ := body f cdv A outer s H vs Q E hr h
  exact ⟨t, h1.nox, h2⟩
/-- the letter ahead of the i-th -/
def bef (L : Lts) : Nat → Wd
  | 0 => []
  | j + 1 => [(names L).getD j 0]
theorem bef_lt {L : Lts} (h : LOk L) {i : Nat} {e : Nat × List Nat} (he : L[i]? = some e) : (tx (bef L i)).cps.toList < (tx [e.1]).cps.toList := by
  rw [tx_cps, tx_cps]
  cases i with
  | zero => exact List.nil_lt_cons _ _
  | succ j =>
    obtain ⟨hj, e1⟩ := List.getElem?_eq_some_iff.mp he
    have hn : (names L).length = L.length := by unfold names; rw [List.length_map]
    have h1 : j < (names L).length := by omega
    have h2 : j + 1 < (names L).length := by omega
    have := List.pairwise_iff_getElem.mp h.asc j (j + 1) h1 h2 (by omega)
    have e2 : (names L)[j + 1] = e.1 := by
      simp only [names, List.getElem_map, e1]
    rw [e2] at this
    show [(names L).getD j 0] < [e.1]
    rw [List.getD_eq_getElem?_getD, List.getElem?_eq_getElem h1]
    exact List.cons_lt_cons_iff.mpr (.inl this)
theorem bef_succ {L : Lts} {i : Nat} {e : Nat × List Nat} (he : L[i]? = some e) : bef L (i + 1) = [e.1] := by
  show [(names L).getD i 0] = [e.1]
  rw [List.getD_eq_getElem?_getD]
  unfold names
  rw [List.getElem?_map, he]
  rfl
theorem sl2 {n : Nat} (h : n ≤ 5000) : n ≤ sizeLine := by rw [sizeLine_eq]; omega
end Fk

set_option Elab.async false
set_option linter.all false
set_option maxRecDepth 100000
set_option maxHeartbeats 4000000
/-! Fk K1: the small checkers. -/
namespace Fk
open PySem PySem.Spec PyProof.Rows L2



def spNum : Sp := fun vs H Q _ => ∃ i : Int, vs = [.int i] ∧ 0 ≤ i ∧ Q (.bl true) H
def spInt : Sp := fun vs H Q _ => ∃ i : Int, vs = [.int i] ∧ Q (.bl true) H
def spLetter : Sp := fun vs H Q _ => ∃ c : Nat, vs = [lv c] ∧ lower26 c ∧ Q (.bl true) H
def spThing : Sp := fun vs H Q _ => ∃ x : Wd, vs = [wv x] ∧ (∀ c ∈ x, lower26 c) ∧ x.length ≤ 1000 ∧ ∀ H', Same H H' → Q (.bl true) H'
def spRising (K : PySem.W.Frag) : Sp := fun vs H Q _ => ∃ (a : Addr) (cs : List Nat), vs = [.ref a] ∧ SqT K H a (cs.map lv) ∧ cs.Pairwise (· < ·) ∧ cs.length ≤ 1000 ∧ ∀ H', Same H H' → Q (.bl true) H'
def spLetters (K : PySem.W.Frag) : Sp := fun vs H Q _ => ∃ (a : Addr) (cs : List Nat), vs = [.ref a] ∧ SqT K H a (cs.map lv) ∧ cs.Pairwise (· < ·) ∧ (∀ c ∈ cs, lower26 c) ∧ cs.length ≤ 1000 ∧ ∀ H', Same H H' → Q (.bl true) H'
def spPair (K : PySem.W.Frag) : Sp := fun vs H Q _ => ∃ (a : Addr) (x y : V), vs = [.ref a] ∧ SqT K H a [x, y] ∧ Q (.bl true) H
def spEntry (K : PySem.W.Frag) : Sp := fun vs H Q _ => ∃ (v : V) (e : Nat × List Nat), vs = [v] ∧ Dp K H v (dE e) ∧ lower26 e.1 ∧ e.2.Pairwise (· < ·) ∧ (∀ c ∈ e.2, lower26 c) ∧ e.2.length ≤ 1000 ∧ ∀ H', Same H H' → Q (.bl true) H'
def spSide : Sp := fun vs H Q _ => ∃ l : Bool, vs = [.str (sd l)] ∧ Q (.bl true) H
section
variable {P : Program} {w : World} {K : PySem.W.Frag} {mg : Str → Option Value} {base : Heap} (B : Bt K mg)
include B
theorem h_is_integer (D : Def K mg "is_integer" s_is_integer [] []) : Has P w K mg base "is_integer" [] 1 spInt := by
  refine has_of D sc_is_integer (fun vs H Q E h => by obtain ⟨_, rfl, _⟩ := h; rfl) (fun _ _ _ _ _ _ us hl => match us, hl with | [_], _ => rfl) fun f cdv A outer s H vs Q E hr h => ?_
  obtain ⟨i, rfl, q⟩ := h
  refine ⟨_, (pss_one (ps_ret (pe_and (pe_callB call_isB rfl B.isinstance_ (by decide +kernel) (pa_cons (pv 0) (pa_cons (pe_ty (n := "int") rfl B.int_ (by decide +kernel)) pa_nil))) (pe_one (pe_not (pe_callB call_isB rfl B.isinstance_ (by decide +kernel) (pa_cons (pv 0) (pa_cons (pe_ty (n := "bool") rfl B.bool_ (by decide +kernel)) pa_nil)))))))), ?_⟩
  refine ⟨_, rfl, _, "int", "int", true, rfl, ty_int, ki_ii, true, rfl, iteT ?_⟩
  exact ⟨_, rfl, _, "int", "bool", false, rfl, ty_int, ki_ib, false, rfl, q⟩
theorem h_is_number (D : Def K mg "is_number" s_is_number [] []) (h_is_integer : Has P w K mg base "is_integer" [] 1 spInt) : Has P w K mg base "is_number" [] 2 spNum := by
  refine has_of D sc_is_number (fun vs H Q E h => by obtain ⟨_, rfl, _⟩ := h; rfl) (fun _ _ _ _ _ _ us hl => match us, hl with | [_], _ => rfl) fun f cdv A outer s H vs Q E hr h => ?_
  obtain ⟨i, rfl, hi, q⟩ := h
  refine ⟨_, (pss_one (ps_ret (pe_and (pe_has h_is_integer (hr.mono (by decide)) rfl (pa_cons (pv 0) pa_nil)) (pe_one (pe_cmpR op_ge (pv 0) pe_int (nomark _)))))), ?_⟩
  refine ⟨_, rfl, i, rfl, true, rfl, iteT ?_⟩
  refine ⟨_, rfl, _, _, rfl, rfl, ?_⟩
  show Q (.bl (decide (0 ≤ i))) H
  rw [decide_eq_true hi]
  exact q
theorem h_is_letter (D : Def K mg "is_letter" s_is_letter [] []) : Has P w K mg base "is_letter" [] 1 spLetter := by
  refine has_of D sc_is_letter (fun vs H Q E h => by obtain ⟨_, rfl, _⟩ := h; rfl) (fun _ _ _ _ _ _ us hl => match us, hl with | [_], _ => rfl) fun f cdv A outer s H vs Q E hr h => ?_
  obtain ⟨c, rfl, hc, q⟩ := h
  obtain ⟨tk, hlow⟩ := B.low
  refine ⟨_, (pss_one (ps_ret (pe_and (pe_callB call_isB rfl B.isinstance_ (by decide +kernel) (pa_cons (pv 0) (pa_cons (pe_ty (n := "str") rfl B.str_ (by decide +kernel)) pa_nil))) (pe_and (pe_cmpR op_eq (pe_callB call_len_str rfl B.len_ (by decide +kernel) (pa_cons (pv 0) pa_nil)) pe_int (nomark _)) (pe_one (pe_cmpR op_in_sign (pv 0) (pe_glob rfl hlow (show RelV (.str "abcdefghijklmnopqrstuvwxyz") _ from ⟨_, rfl⟩)) rfl)))))), ?_⟩
  refine ⟨_, rfl, _, "str", "str", true, rfl, ty_str, ki_ss, true, rfl, iteT ?_⟩
  refine ⟨_, rfl, _, rfl, sl2 (by rw [tx_len]; simp), rfl, _, rfl, iteD (by rw [tx_len]; rfl) ?_⟩
  refine ⟨_, rfl, c, _, rfl, rfl, ?_⟩
  rw [decide_eq_true (low_mem hc)]
  exact q
theorem h_is_thing (D : Def K mg "is_thing" s_is_thing [] []) : Has P w K mg base "is_thing" [] 1 spThing := by
  refine has_of D sc_is_thing (fun vs H Q E h => by obtain ⟨_, rfl, _⟩ := h; rfl) (fun _ _ _ _ _ _ us hl => match us, hl with | [_], _ => rfl) fun f cdv A outer s H vs Q E hr h => ?_
  obtain ⟨x, rfl, hx, hl, q⟩ := h
  obtain ⟨tk, hlow⟩ := B.low
  refine ⟨_, (pss_one (ps_ret (pe_and (pe_callB call_isB rfl B.isinstance_ (by decide +kernel) (pa_cons (pv 0) (pa_cons (pe_ty (n := "str") rfl B.str_ (by decide +kernel)) pa_nil))) (pe_one (pe_callB (cr_all rfl) rfl B.all_ (by decide +kernel) (pa_cons (pe_lc (own := [("sign", 1)]) rfl sc_is_thing.nd (pi_str (pv 0)) (blkOk_by (N := N_is_thing) (sc := defScope s_is_thing) (by decide +kernel)) (fun _ _ _ _ _ => (pg_name (i := 1) sc_is_thing.nd rfl (Or.inl rfl) (.inr rfl))) (fun _ _ _ _ _ => pts_nil) (fun _ _ _ _ _ => (pe_cmpR op_in_sign (pv 1) (pe_glob rfl hlow (show RelV (.str "abcdefghijklmnopqrstuvwxyz") _ from ⟨_, rfl⟩)) rfl))) pa_nil)))))), ?_⟩
  refine ⟨_, rfl, _, "str", "str", true, rfl, ty_str, ki_ss, true, rfl, iteT ?_⟩
  refine ⟨_, rfl, _, rfl, fun D nD => ?_⟩
  refine lc_it walk_str (LcP H D fun i => List.replicate i (V.bl true)) (.start nD rfl) (fun _ _ _ _ => trivial) (fun i x H1 H2 hi p y => ?_) fun H1 p => ?_
  · obtain ⟨rfl, c, hc, rfl⟩ := y
    have hc' : c ∈ ("abcdefghijklmnopqrstuvwxyz" : Str).cps.toList := low_mem (hx c (by
      have e := tx_cps x
      rw [← e]
      exact Array.mem_toList_iff.mpr (Array.mem_of_getElem? hc)))
    refine ⟨rfl, _, rfl, c, _, rfl, rfl, ?_⟩
    rw [decide_eq_true hc']
    refine p.add nD (.refl _) (List.replicate_succ' ..) ?_
    rw [List.length_replicate]
    have : (tx x).cps.size = x.length := by simp [tx]
    omega
  · refine ⟨D, List.replicate (tx x).cps.size true, rfl, .of (by rw [p.2, List.map_replicate]), ?_⟩
    rw [show (List.replicate (tx x).cps.size true).all id = true by simp]
    exact q _ p.1
theorem h_is_rising_row (D : Def K mg "is_rising_row" s_is_rising_row [] []) : Has P w K mg base "is_rising_row" [] 1 (spRising K) := by
  refine has_of D sc_is_rising_row (fun vs H Q E h => by obtain ⟨_, _, rfl, _⟩ := h; rfl) (fun _ _ _ _ _ _ us hl => match us, hl with | [_], _ => rfl) fun f cdv A outer s H vs Q E hr h => ?_
  obtain ⟨a, cs, rfl, hS, hp, hz, q⟩ := h
  refine ⟨_, (pss_one (ps_ret (pe_callB (cr_all rfl) rfl B.all_ (by decide +kernel) (pa_cons (pe_lc (own := [("one", 1), ("other", 2)]) rfl sc_is_rising_row.nd (RZ.pi_zipA rfl B.zip_ (pa_cons (pv 0) (pa_cons (pe_slice sl_tupS (pv 0) (po_some pe_int) po_none) pa_nil))) (blkOk_by (N := N_is_rising_row) (sc := defScope s_is_rising_row) (by decide +kernel)) (fun _ _ _ _ _ => (pg_tupK K rfl 2 rfl (pgs_cons (pg_name (i := 1) sc_is_rising_row.nd rfl (Or.inl rfl) (.inr rfl)) (pgs_cons (pg_name (i := 2) sc_is_rising_row.nd rfl (Or.inl rfl) (.inr rfl)) pgs_nil)))) (fun _ _ _ _ _ => pts_nil) (fun _ _ _ _ _ => (pe_cmpR op_lt_str (pv 1) (pv 2) (nomark _)))) pa_nil)))), ?_⟩
  refine ⟨_, rfl, _, rfl, _, rfl, a, _, rfl, hS, fun b H1 e1 hb => ?_⟩
  have hb' : SqT K H1 b ((cs.map lv).drop 1) := by
    rw [← cutV_from]
    exact hb
  refine ⟨a, b, _, _, rfl, .inr ⟨sqT_ext e1 hS, hb', fun D nD => ?_⟩⟩
  refine lc_it (walk_zipT2 (xs := cs.map lv) (ys := (cs.map lv).drop 1) rfl) (LcP H1 D fun i => List.replicate i (V.bl true)) (.start nD rfl) (fun _ H2 _ p => ⟨sqT_ext (e1.trans p.1) hS, sqT_ext p.1 hb'⟩) (fun i x H2 H3 hi p y => ?_) fun H2 p => ?_
  · obtain ⟨T, x1, x2, rfl, e2, -, hT, h1, h2⟩ := YPair.same y
    rw [List.getElem?_drop, List.getElem?_map] at h2
    rw [List.getElem?_map] at h1
    obtain ⟨c1, g1, rfl⟩ := Option.map_eq_some_iff.mp h1
    obtain ⟨c2, g2, rfl⟩ := Option.map_eq_some_iff.mp h2
    have hlt : c1 < c2 := by
      obtain ⟨k1, e1'⟩ := List.getElem?_eq_some_iff.mp g1
      obtain ⟨k2, e2'⟩ := List.getElem?_eq_some_iff.mp g2
      rw [← e1', ← e2']
      exact List.pairwise_iff_getElem.mp hp _ _ k1 k2 (by omega)
    refine ⟨T, _, rfl, .of hT, rfl, _, _, rfl, _, _, rfl, rfl, rfl, _, rfl, _, rfl, _, _, rfl, rfl, ?_⟩
    have : (tx [c1]).cps.toList < (tx [c2]).cps.toList := by
      rw [tx_cps, tx_cps]
      exact List.cons_lt_cons_iff.mpr (.inl hlt)
    rw [decide_eq_true this]
    refine p.add nD e2 (List.replicate_succ' ..) ?_
    rw [List.length_replicate]
    rw [List.length_map] at hi
    omega
  · refine ⟨D, List.replicate _ true, rfl, .of (by rw [p.2, List.map_replicate]), ?_⟩
    rw [show ∀ n, (List.replicate n true).all id = true from fun n => by simp]
    exact q _ (e1.trans p.1)
theorem h_is_letter_set (D : Def K mg "is_letter_set" s_is_letter_set [] []) (h_is_letter : Has P w K mg base "is_letter" [] 1 spLetter) (h_is_rising_row : Has P w K mg base "is_rising_row" [] 1 (spRising K)) : Has P w K mg base "is_letter_set" [] 2 (spLetters K) := by
  refine has_of D sc_is_letter_set (fun vs H Q E h => by obtain ⟨_, _, rfl, _⟩ := h; rfl) (fun _ _ _ _ _ _ us hl => match us, hl with | [_], _ => rfl) fun f cdv A outer s H vs Q E hr h => ?_
  obtain ⟨a, cs, rfl, hS, hp, hw, hz, q⟩ := h
  refine ⟨_, (pss_one (ps_ret (pe_and (pe_callB call_isB rfl B.isinstance_ (by decide +kernel) (pa_cons (pv 0) (pa_cons (pe_ty (n := "tuple") rfl B.tuple_ (by decide +kernel)) pa_nil))) (pe_and (pe_callB (cr_all rfl) rfl B.all_ (by decide +kernel) (pa_cons (pe_lc (own := [("one", 1)]) rfl sc_is_letter_set.nd (pi_tup (pv 0)) (blkOk_by (N := N_is_letter_set) (sc := defScope s_is_letter_set) (by decide +kernel)) (fun _ _ _ _ _ => (pg_name (i := 1) sc_is_letter_set.nd rfl (Or.inl rfl) (.inr rfl))) (fun _ _ _ _ _ => pts_nil) (fun _ _ _ _ _ => (pe_has h_is_letter (hr.mono (by decide)) rfl (pa_cons (pv 1) pa_nil)))) pa_nil)) (pe_one (pe_has h_is_rising_row (hr.mono (by decide)) rfl (pa_cons (pv 0) pa_nil))))))), ?_⟩
  refine ⟨_, rfl, _, "tuple", "tuple", true, rfl, ty_tup hS, ki_tt, true, rfl, iteT ?_⟩
  refine ⟨_, rfl, a, rfl, ⟨_, hS⟩, fun D nD => ?_⟩
  refine lc_it (walk_tup (xs := cs.map lv)) (LcP H D fun i => List.replicate i (V.bl true)) (.start nD rfl) (fun _ H2 _ p => sqT_ext p.1 hS) (fun i x H2 H3 hi p y => ?_) fun H2 p => ?_
  · obtain ⟨rfl, g⟩ := y
    rw [List.getElem?_map] at g
    obtain ⟨c, g', rfl⟩ := Option.map_eq_some_iff.mp g
    refine ⟨rfl, _, rfl, c, rfl, hw c (List.mem_of_getElem? g'), ?_⟩
    refine p.add nD (.refl _) (List.replicate_succ' ..) ?_
    rw [List.length_replicate]
    rw [List.length_map] at hi
    omega
  · refine ⟨D, List.replicate _ true, rfl, .of (by rw [p.2, List.map_replicate]), ?_⟩
    rw [show ∀ n, (List.replicate n true).all id = true from fun n => by simp]
    refine ⟨_, rfl, iteT ?_⟩
    exact ⟨_, rfl, a, cs, rfl, sqT_ext p.1 hS, hp, hz, fun H' e => q H' (p.1.trans e)⟩
theorem h_is_pair (D : Def K mg "is_pair" s_is_pair [] []) : Has P w K mg base "is_pair" [] 1 (spPair K) := by
  refine has_of D sc_is_pair (fun vs H Q E h => by obtain ⟨_, _, _, rfl, _⟩ := h; rfl) (fun _ _ _ _ _ _ us hl => match us, hl with | [_], _ => rfl) fun f cdv A outer s H vs Q E hr h => ?_
  obtain ⟨a, x, y, rfl, hS, q⟩ := h
  refine ⟨_, (pss_one (ps_ret (pe_and (pe_callB call_isB rfl B.isinstance_ (by decide +kernel) (pa_cons (pv 0) (pa_cons (pe_ty (n := "tuple") rfl B.tuple_ (by decide +kernel)) pa_nil))) (pe_one (pe_cmpR op_eq (pe_callB call_len_seq rfl B.len_ (by decide +kernel) (pa_cons (pv 0) pa_nil)) pe_int (nomark _)))))), ?_⟩
  refine ⟨_, rfl, _, "tuple", "tuple", true, rfl, ty_tup hS, ki_tt, true, rfl, iteT ?_⟩
  exact ⟨_, rfl, a, _, rfl, .inr hS, rfl, q⟩
theorem h_is_entry (D : Def K mg "is_entry" s_is_entry [] []) (h_is_pair : Has P w K mg base "is_pair" [] 1 (spPair K)) (h_is_letter : Has P w K mg base "is_letter" [] 1 spLetter) (h_is_letter_set : Has P w K mg base "is_letter_set" [] 2 (spLetters K)) : Has P w K mg base "is_entry" [] 3 (spEntry K) := by
  refine has_of D sc_is_entry (fun vs H Q E h => by obtain ⟨_, _, rfl, _⟩ := h; rfl) (fun _ _ _ _ _ _ us hl => match us, hl with | [_], _ => rfl) fun f cdv A outer s H vs Q E hr h => ?_
  obtain ⟨v, e, rfl, hd, hl, hp, hw, hz, q⟩ := h
  obtain ⟨a, b, rfl, h1, h2⟩ := dp_entry hd
  refine ⟨_, (pss_one (ps_ret (pe_and (pe_has h_is_pair (hr.mono (by decide)) rfl (pa_cons (pv 0) pa_nil)) (pe_and (pe_has h_is_letter (hr.mono (by decide)) rfl (pa_cons (pe_ix ix_tup (pv 0) pe_int (fun _ _ => rfl)) pa_nil)) (pe_one (pe_has h_is_letter_set (hr.mono (by decide)) rfl (pa_cons (pe_ix ix_tup (pv 0) pe_int (fun _ _ => rfl)) pa_nil))))))), ?_⟩
  refine ⟨_, rfl, a, _, _, rfl, h1, true, rfl, iteT ?_⟩
  refine ⟨_, rfl, a, _, 0, _, rfl, rfl, h1, rfl, e.1, rfl, hl, true, rfl, iteT ?_⟩
  exact ⟨_, rfl, a, _, 1, _, rfl, rfl, h1, rfl, b, e.2, rfl, h2, hp, hw, hz, q⟩
theorem h_is_side (D : Def K mg "is_side" s_is_side [] []) : Has P w K mg base "is_side" [] 1 spSide := by
  refine has_of D sc_is_side (fun vs H Q E h => by obtain ⟨_, rfl, _⟩ := h; rfl) (fun _ _ _ _ _ _ us hl => match us, hl with | [_], _ => rfl) fun f cdv A outer s H vs Q E hr h => ?_
  obtain ⟨l, rfl, q⟩ := h
  obtain ⟨sa, hsd, hss⟩ := B.sides
  refine ⟨_, (pss_one (ps_ret (pe_and (pe_callB call_isB rfl B.isinstance_ (by decide +kernel) (pa_cons (pv 0) (pa_cons (pe_ty (n := "str") rfl B.str_ (by decide +kernel)) pa_nil))) (pe_one (pe_cmpR op_in_seq (pv 0) (pe_glob rfl hsd (show RelV (.ref _) _ from rfl)) rfl))))), ?_⟩
  refine ⟨_, rfl, _, "str", "str", true, rfl, ty_str, ki_ss, true, rfl, iteT ?_⟩
  refine ⟨_, rfl, sa, _, rfl, .inr (hss H), rfl, rfl, ?_⟩
  cases l <;> exact q
end
end Fk

set_option Elab.async false
set_option linter.all false
set_option maxRecDepth 100000
set_option maxHeartbeats 4000000
/-! Fk K2: is_rule, reached_letters, are_letters_known. -/
namespace Fk
open PySem PySem.Spec PyProof.Rows L2
def RLow : Rl → Prop
  | .drop n _ => 1 ≤ n
  | .put c w _ => lower26 c ∧ (∀ d ∈ w, lower26 d) ∧ w.length ≤ 20 ∧ w ≠ [c]
  | _ => True
theorem ROk.low {L : Lts} {r : Rl} (hL : LOk L) (h : ROk L r) : RLow r := by
  cases r with
  | drop n l => exact h.1
  | put c w l => exact ⟨hL.nameLow h.1, fun d hd => hL.nameLow (h.2.1.1 d hd), h.2.1.2, h.2.2⟩
  | _ => trivial
def spRule (K : PySem.W.Frag) : Sp := fun vs H Q _ => ∃ (a : Addr) (r : Rl), vs = [.ref a] ∧ SqT K H a (rV r) ∧ RLow r ∧ ∀ H', Same H H' → Q (.bl true) H'
def spReach (K : PySem.W.Frag) : Sp := fun vs H Q _ => ∃ (d : Addr) (L : Lts) (c : Nat), vs = [.ref d, lv c] ∧ DictL K H d L ∧ LOk L ∧ c ∈ names L ∧
  ∀ H' p, Same H H' → H p = none → H' p = some (.lst ((reach L c).map lv)) → Q (.ref p) H'
def RKn (ns : List Nat) : Rl → Prop
  | .put c w _ => c ∈ ns ∧ (∀ d ∈ w, d ∈ ns) ∧ w.length ≤ 20
  | _ => True
theorem ROk.kn {L : Lts} {r : Rl} (h : ROk L r) : RKn (names L) r := by
  cases r with
  | put c w l => exact ⟨h.1, h.2.1.1, h.2.1.2⟩
  | _ => trivial
def spKnown (K : PySem.W.Frag) : Sp := fun vs H Q _ => ∃ (k a : Addr) (ns : List Nat) (r : Rl), vs = [.ref k, .ref a] ∧ (SqL K H k (ns.map lv) ∨ SqT K H k (ns.map lv)) ∧ SqT K H a (rV r) ∧ RKn ns r ∧ ∀ H', Same H H' → Q (.bl true) H'
def WReach (H : Hp) (d pf pw : Addr) (L : Lts) (c : Nat) (r : Nat → Nat) : Nat → L2.St → Hp → Prop := fun m σ H2 => ∃ (found waiting : List Nat) (v : Option V), σ = [some (.ref d), some (lv c), some (.ref pf), some (.ref pw), v] ∧ Same H H2 ∧ H2 pf = some (.lst (found.map lv)) ∧ H2 pw = some (.lst (waiting.map lv)) ∧ RInv L r c m found waiting ∧ reachGo L m found waiting = reach L c ∧ m ≤ 24
section
variable {P : Program} {w : World} {K : PySem.W.Frag} {mg : Str → Option Value} {base : Heap} (B : Bt K mg)
include B
theorem h_is_rule (D : Def K mg "is_rule" s_is_rule [] []) (h_is_number : Has P w K mg base "is_number" [] 2 spNum) (h_is_side : Has P w K mg base "is_side" [] 1 spSide)
    (h_is_letter : Has P w K mg base "is_letter" [] 1 spLetter) (h_is_thing : Has P w K mg base "is_thing" [] 1 spThing) : Has P w K mg base "is_rule" [] 3 (spRule K) := by
  refine has_of D sc_is_rule (fun vs H Q E h => by obtain ⟨_, _, rfl, _⟩ := h; rfl) (fun _ _ _ _ _ _ us hl => match us, hl with | [_], _ => rfl) fun f cdv A outer s H vs Q E hr h => ?_
  obtain ⟨a, r, rfl, hS, hL, q⟩ := h
  refine ⟨_, (pss_cons (ps_if (PW.pt (pw_or (pt_not (pt_val (pe_callB call_isB rfl B.isinstance_ (by decide +kernel) (pa_cons (pv 0) (pa_cons (pe_ty (n := "tuple") rfl B.tuple_ (by decide +kernel)) pa_nil))))) (pw_or (pt_cmpR op_eq (pe_callB call_len_seq rfl B.len_ (by decide +kernel) (pa_cons (pv 0) pa_nil)) pe_int (nomark _)) (pw_or1 (pt_not (pt_val (pe_callB call_isB rfl B.isinstance_ (by decide +kernel) (pa_cons (pe_ix ix_tup (pv 0) pe_int (fun _ _ => rfl)) (pa_cons (pe_ty (n := "str") rfl B.str_ (by decide +kernel)) pa_nil))))))))) (pss_one (ps_ret pe_bl)) pss_nil)
      (pss_cons (ps_par (i := 1) (j := 2) rfl sc_is_rule.nd rfl rfl (by decide) rfl rfl (pa_cons (pe_ix ix_tup (pv 0) pe_int (fun _ _ => rfl)) (pa_cons (pe_slice sl_tupS (pv 0) (po_some pe_int) po_none) pa_nil)) rfl)
      (pss_cons (ps_if (pt_cmpR op_eq (pv 1) pe_str (nomark _)) (pss_one (ps_ret (pe_and (pe_cmpR op_eq (pe_callB call_len_seq rfl B.len_ (by decide +kernel) (pa_cons (pv 2) pa_nil)) pe_int (nomark _)) (pe_and (pe_has h_is_number (hr.mono (by decide)) rfl (pa_cons (pe_ix ix_tup (pv 2) pe_int (fun _ _ => rfl)) pa_nil)) (pe_and (pe_cmpR op_gt (pe_ix ix_tup (pv 2) pe_int (fun _ _ => rfl)) pe_int (nomark _)) (pe_one (pe_has h_is_side (hr.mono (by decide)) rfl (pa_cons (pe_ix ix_tup (pv 2) pe_int (fun _ _ => rfl)) pa_nil)))))))) pss_nil)
      (pss_cons (ps_if (pt_cmpR op_in_seq (pv 1) (pe_tup (pa_cons pe_str (pa_cons pe_str pa_nil))) rfl) (pss_one (ps_ret (pe_and (pe_cmpR op_eq (pe_callB call_len_seq rfl B.len_ (by decide +kernel) (pa_cons (pv 2) pa_nil)) pe_int (nomark _)) (pe_one (pe_has h_is_side (hr.mono (by decide)) rfl (pa_cons (pe_ix ix_tup (pv 2) pe_int (fun _ _ => rfl)) pa_nil)))))) pss_nil)
      (pss_cons (ps_if (pt_cmpR op_eq (pv 1) pe_str (nomark _)) (pss_cons (ps_if (PW.pt (pw_or (pt_cmpR op_ne (pe_callB call_len_seq rfl B.len_ (by decide +kernel) (pa_cons (pv 2) pa_nil)) pe_int (nomark _)) (pw_or (pt_not (pt_val (pe_has h_is_letter (hr.mono (by decide)) rfl (pa_cons (pe_ix ix_tup (pv 2) pe_int (fun _ _ => rfl)) pa_nil)))) (pw_or1 (pt_not (pt_val (pe_has h_is_thing (hr.mono (by decide)) rfl (pa_cons (pe_ix ix_tup (pv 2) pe_int (fun _ _ => rfl)) pa_nil)))))))) (pss_one (ps_ret pe_bl)) pss_nil)
      (pss_one (ps_ret (pe_and (pe_cmpR op_ne (pe_ix ix_tup (pv 2) pe_int (fun _ _ => rfl)) (pe_ix ix_tup (pv 2) pe_int (fun _ _ => rfl)) (nomark _)) (pe_one (pe_has h_is_side (hr.mono (by decide)) rfl (pa_cons (pe_ix ix_tup (pv 2) pe_int (fun _ _ => rfl)) pa_nil))))))) pss_nil)
      (pss_one (ps_ret (pe_and (pe_cmpR op_eq (pv 1) pe_str (nomark _)) (pe_one (pe_cmpR op_eq (pe_callB call_len_seq rfl B.len_ (by decide +kernel) (pa_cons (pv 2) pa_nil)) pe_int (nomark _))))))))))), ?_⟩
  refine ⟨_, rfl, _, "tuple", "tuple", true, rfl, ty_tup hS, ki_tt, true, rfl, ?_⟩
  refine ⟨_, rfl, a, _, rfl, .inr hS, rfl, _, rfl, ?_⟩
  cases r with
  | drop n l =>
    refine ⟨_, rfl, a, _, 0, _, rfl, rfl, hS, rfl, _, "str", "str", true, rfl, ty_str, ki_ss, true, rfl, ?_⟩
    refine ⟨_, rfl, a, _, 0, _, rfl, rfl, hS, rfl, _, rfl, _, rfl, a, _, rfl, hS, fun p H1 e1 hp => ?_⟩
    rw [show (some 1 : Option Int) = some ((1 : Nat) : Int) from rfl, cutV_from] at hp
    refine ⟨_, _, rfl, _, rfl, rfl, true, rfl, ?_⟩
    refine ⟨_, rfl, p, _, rfl, .inr hp, rfl, true, rfl, ?_⟩
    refine ⟨_, rfl, p, _, 0, _, rfl, rfl, hp, rfl, n, rfl, by omega, true, rfl, ?_⟩
    refine ⟨_, rfl, p, _, 0, _, rfl, rfl, hp, rfl, _, _, rfl, rfl, _, rfl, iteD (by have : 1 ≤ n := hL; omega) ?_⟩
    exact ⟨_, rfl, p, _, 1, _, rfl, rfl, hp, rfl, l, rfl, q _ e1⟩
  | half l =>
    refine ⟨_, rfl, a, _, 0, _, rfl, rfl, hS, rfl, _, "str", "str", true, rfl, ty_str, ki_ss, true, rfl, ?_⟩
    refine ⟨_, rfl, a, _, 0, _, rfl, rfl, hS, rfl, _, rfl, _, rfl, a, _, rfl, hS, fun p H1 e1 hp => ?_⟩
    rw [show (some 1 : Option Int) = some ((1 : Nat) : Int) from rfl, cutV_from] at hp
    refine ⟨_, _, rfl, _, rfl, rfl, false, rfl, ?_⟩
    refine ⟨_, rfl, by decide, fun t nt => ⟨t, _, rfl, .inr (.of upd_same), rfl, rfl, true, rfl, ?_⟩⟩
    have hp' := sqT_ext (same_upd (o := .tup [.str "half", .str "lower"]) nt) hp
    refine ⟨_, rfl, p, _, rfl, .inr hp', rfl, true, rfl, ?_⟩
    exact ⟨_, rfl, p, _, 0, _, rfl, rfl, hp', rfl, l, rfl, q _ (e1.trans (same_upd nt))⟩
  | empty =>
    refine ⟨_, rfl, a, _, 0, _, rfl, rfl, hS, rfl, _, "str", "str", true, rfl, ty_str, ki_ss, true, rfl, ?_⟩
    refine ⟨_, rfl, a, _, 0, _, rfl, rfl, hS, rfl, _, rfl, _, rfl, a, _, rfl, hS, fun p H1 e1 hp => ?_⟩
    rw [show (some 1 : Option Int) = some ((1 : Nat) : Int) from rfl, cutV_from] at hp
    refine ⟨_, _, rfl, _, rfl, rfl, false, rfl, ?_⟩
    refine ⟨_, rfl, by decide, fun t nt => ⟨t, _, rfl, .inr (.of upd_same), rfl, rfl, false, rfl, ?_⟩⟩
    have hp' := sqT_ext (same_upd (o := .tup [.str "half", .str "lower"]) nt) hp
    refine ⟨_, rfl, rfl, false, rfl, ?_⟩
    refine ⟨_, rfl, rfl, true, rfl, ?_⟩
    exact ⟨_, rfl, p, _, rfl, .inr hp', rfl, q _ (e1.trans (same_upd nt))⟩
  | lower l =>
    refine ⟨_, rfl, a, _, 0, _, rfl, rfl, hS, rfl, _, "str", "str", true, rfl, ty_str, ki_ss, true, rfl, ?_⟩
    refine ⟨_, rfl, a, _, 0, _, rfl, rfl, hS, rfl, _, rfl, _, rfl, a, _, rfl, hS, fun p H1 e1 hp => ?_⟩
    rw [show (some 1 : Option Int) = some ((1 : Nat) : Int) from rfl, cutV_from] at hp
    refine ⟨_, _, rfl, _, rfl, rfl, false, rfl, ?_⟩
    refine ⟨_, rfl, by decide, fun t nt => ⟨t, _, rfl, .inr (.of upd_same), rfl, rfl, true, rfl, ?_⟩⟩
    have hp' := sqT_ext (same_upd (o := .tup [.str "half", .str "lower"]) nt) hp
    refine ⟨_, rfl, p, _, rfl, .inr hp', rfl, true, rfl, ?_⟩
    exact ⟨_, rfl, p, _, 0, _, rfl, rfl, hp', rfl, l, rfl, q _ (e1.trans (same_upd nt))⟩
  | put c x l =>
    obtain ⟨l1, l2, l3, l4⟩ := hL
    refine ⟨_, rfl, a, _, 0, _, rfl, rfl, hS, rfl, _, "str", "str", true, rfl, ty_str, ki_ss, true, rfl, ?_⟩
    refine ⟨_, rfl, a, _, 0, _, rfl, rfl, hS, rfl, _, rfl, _, rfl, a, _, rfl, hS, fun p H1 e1 hp => ?_⟩
    rw [show (some 1 : Option Int) = some ((1 : Nat) : Int) from rfl, cutV_from] at hp
    refine ⟨_, _, rfl, _, rfl, rfl, false, rfl, ?_⟩
    refine ⟨_, rfl, by decide, fun t nt => ⟨t, _, rfl, .inr (.of upd_same), rfl, rfl, false, rfl, ?_⟩⟩
    have hp' := sqT_ext (same_upd (o := .tup [.str "half", .str "lower"]) nt) hp
    refine ⟨_, rfl, rfl, true, rfl, ?_⟩
    refine ⟨_, rfl, p, _, rfl, .inr hp', rfl, false, rfl, ?_⟩
    refine ⟨_, rfl, p, _, 0, _, rfl, rfl, hp', rfl, c, rfl, l1, true, rfl, ?_⟩
    refine ⟨_, rfl, p, _, 1, _, rfl, rfl, hp', rfl, x, rfl, l2, by omega, fun H2 e2 => ⟨true, rfl, ?_⟩⟩
    have hp2 := sqT_ext e2 hp'
    refine ⟨_, rfl, p, _, 0, _, rfl, rfl, hp2, rfl, _, rfl, p, _, 1, _, rfl, rfl, hp2, rfl, rfl, _, rfl, iteNT ?_ ?_⟩
    · intro z
      exact l4 (tx_inj (V.str.inj z)).symm
    · exact ⟨_, rfl, p, _, 2, _, rfl, rfl, hp2, rfl, l, rfl, q _ ((e1.trans (same_upd nt)).trans e2)⟩
theorem h_reached_letters (D : Def K mg "reached_letters" s_reached_letters [] []) : Has P w K mg base "reached_letters" [] 1 (spReach K) := by
  refine has_of D sc_reached_letters (fun vs H Q E h => by obtain ⟨_, _, _, rfl, _⟩ := h; rfl) (fun _ _ _ _ _ _ us hl => match us, hl with | [_, _], _ => rfl) fun f cdv A outer s H vs Q E hr h => ?_
  obtain ⟨d, L, c, rfl, ⟨kvs, hd, hk⟩, hL, hc, q⟩ := h
  have hu := hu_of hr
  refine ⟨_, (pss_cons (ps_set (i := 2) sc_reached_letters.nd rfl (Or.inl rfl) (pe_lst pa_nil))
      (pss_cons (ps_set (i := 3) sc_reached_letters.nd rfl (Or.inl rfl) (pe_callTy call_list_of rfl B.list_ (by decide +kernel) (pa_cons (pe_dget hu (pv 0) (pv 1) (fun _ _ => rfl)) pa_nil)))
      (pss_cons (ps_while PassesOwn.never (pt_cmpR op_gt (pe_callB call_len_seq rfl B.len_ (by decide +kernel) (pa_cons (pv 3) pa_nil)) pe_int (nomark _)) (pss_cons (ps_set (i := 4) sc_reached_letters.nd rfl (Or.inl rfl) (pe_bm0 PySem.F.plainAttrs_list PySem.F.slot_list_pop PySem.F.type_list_pop mt_pop (pv 3)))
      (pss_one (ps_if (pt_cmpR op_notIn_seq (pv 4) (pv 2) rfl) (pss_cons (ps_expr (pe_bm PySem.F.plainAttrs_list PySem.F.slot_list_append PySem.F.type_list_append mt_append (pv 2) (pa_cons (pv 4) pa_nil)))
      (pss_one (ps_expr (pe_bm PySem.F.plainAttrs_list PySem.F.slot_list_extend PySem.F.type_list_extend mt_extend (pv 3) (pa_cons (pe_callTy call_list_of rfl B.list_ (by decide +kernel) (pa_cons (pe_dget hu (pv 0) (pv 4) (fun _ _ => rfl)) pa_nil)) pa_nil))))) pss_nil))))
      (pss_one (ps_ret (pv 2)))))), ?_⟩
  refine ⟨by decide, fun pf nf => ?_⟩
  have s1 := same_upd (o := .lst []) nf
  obtain ⟨b, g1, g2⟩ := hk.find hc hL.nd
  refine ⟨_, rfl, _, rfl, d, _, rfl, dgetL (s1 _ _ hd) g1, b, _, rfl, .inr (sqT_ext s1 g2), fun pw nw => ?_⟩
  have s2 := s1.trans (same_upd (o := .lst ((lsOf L c).map lv)) nw)
  obtain ⟨r, hrk⟩ := hL.rank
  have hfw : pf ≠ pw := ne_of_none upd_same nw
  have nw' : H pw = none := s1.free nw
  refine ⟨WReach H d pf pw L c r, ⟨24, [], lsOf L c, _, rfl, s2, by rw [upd_ne hfw]; exact upd_same, upd_same, .start hL hrk hc, rfl, Nat.le_refl _⟩, ?_⟩
  rintro m σ H2 ⟨found, waiting, v, rfl, e2, hf, hw, inv, hgo, hm⟩
  refine ⟨_, rfl, pw, _, rfl, .inl (.of hw), _, _, rfl, rfl, _, rfl, ?_⟩
  rcases List.eq_nil_or_concat waiting with rfl | ⟨wt, one, rfl⟩
  · refine iteDN (by simp) ?_
    rw [reachGo_nil] at hgo
    exact ⟨_, rfl, q H2 pf e2 nf (by rw [hf, hgo])⟩
  · rw [List.concat_eq_append] at *
    have hone : one ∈ names L := (inv.wn one (List.mem_append_right _ (List.mem_singleton.mpr rfl))).1
    have hwl := inv.fuel
    have hfl := inv.len hL
    rw [List.length_append] at hwl
    have e3 : Same H (upd H2 pw (.lst (wt.map lv))) := same_put e2 nw'
    have hf3 : (upd H2 pw (.lst (wt.map lv))) pf = some (.lst (found.map lv)) := by rw [upd_ne hfw]; exact hf
    refine iteD (by simp) ?_
    by_cases ho : one ∈ found
    · obtain ⟨m', rfl, inv'⟩ := inv.old
      refine ⟨WReach H d pf pw L c r m', fun σ' H' z => ⟨m', Nat.lt_succ_self _, z⟩, ?_⟩
      refine ⟨_, rfl, .inl ⟨rfl, _, .of hw⟩, pw, _, lv one, rfl, rfl, hw, by simp, ?_⟩
      rw [show ((wt ++ [one]).map lv).dropLast = wt.map lv by rw [List.map_append]; exact List.dropLast_concat]
      refine ⟨_, rfl, _, rfl, pf, _, rfl, .inl (.of hf3), rfl, flat_lv _, _, rfl, ?_⟩
      rw [inV_lv, decide_eq_true ho]
      exact ⟨found, wt, _, rfl, e3, hf3, upd_same, inv', by rw [← hgo, reachGo_old L m' found wt ho], by omega⟩
    · obtain ⟨m', rfl, inv'⟩ := inv.new hL hrk ho
      refine ⟨WReach H d pf pw L c r m', fun σ' H' z => ⟨m', Nat.lt_succ_self _, z⟩, ?_⟩
      refine ⟨_, rfl, .inl ⟨rfl, _, .of hw⟩, pw, _, lv one, rfl, rfl, hw, by simp, ?_⟩
      rw [show ((wt ++ [one]).map lv).dropLast = wt.map lv by rw [List.map_append]; exact List.dropLast_concat]
      refine ⟨_, rfl, _, rfl, pf, _, rfl, .inl (.of hf3), rfl, flat_lv _, _, rfl, ?_⟩
      rw [inV_lv, decide_eq_false ho]
      refine ⟨_, rfl, .inl ⟨rfl, _, .of hf3⟩, _, rfl, pf, _, _, rfl, rfl, hf3, by rw [List.length_map, sizeLine_eq]; omega, ?_⟩
      have e4 : Same H (upd (upd H2 pw (.lst (wt.map lv))) pf (.lst (found.map lv ++ [lv one]))) := same_put e3 nf
      have hw4 : (upd (upd H2 pw (.lst (wt.map lv))) pf (.lst (found.map lv ++ [lv one]))) pw = some (.lst (wt.map lv)) := by rw [upd_ne hfw.symm]; exact upd_same
      obtain ⟨b', g3, g4⟩ := (hk.ext e4).find hone hL.nd
      refine ⟨_, rfl, .inl ⟨rfl, _, .of hw4⟩, _, rfl, _, rfl, d, _, rfl, dgetL (e4 _ _ hd) g3, b', _, rfl, .inr g4, fun l nl => ?_⟩
      have hw5 : (upd (upd (upd H2 pw (.lst (wt.map lv))) pf (.lst (found.map lv ++ [lv one]))) l (.lst ((lsOf L one).map lv))) pw = some (.lst (wt.map lv)) := same_upd nl _ _ hw4
      have hf5 : (upd (upd (upd H2 pw (.lst (wt.map lv))) pf (.lst (found.map lv ++ [lv one]))) l (.lst ((lsOf L one).map lv))) pf = some (.lst (found.map lv ++ [lv one])) := same_upd nl _ _ upd_same
      have hll := hL.lsLen hone
      refine ⟨pw, l, _, _, rfl, rfl, hw5, upd_same, by rw [List.length_map, List.length_map, sizeLine_eq]; omega, ?_⟩
      refine ⟨found ++ [one], wt ++ lsOf L one, _, rfl, same_put (e4.trans (same_upd nl)) nw', by rw [upd_ne hfw, hf5, List.map_append]; rfl, by rw [upd_same, List.map_append], inv', by rw [← hgo, reachGo_new L m' found wt ho], by omega⟩
theorem h_are_letters_known (D : Def K mg "are_letters_known" s_are_letters_known [] []) : Has P w K mg base "are_letters_known" [] 1 (spKnown K) := by
  refine has_of D sc_are_letters_known (fun vs H Q E h => by obtain ⟨_, _, _, _, rfl, _⟩ := h; rfl) (fun _ _ _ _ _ _ us hl => match us, hl with | [_, _], _ => rfl) fun f cdv A outer s H vs Q E hr h => ?_
  obtain ⟨k, a, ns, r, rfl, hk, hS, hR, q⟩ := h
  refine ⟨_, (pss_one (ps_ret (pe_or (pe_cmpR op_ne (pe_ix ix_tup (pv 1) pe_int (fun _ _ => rfl)) pe_str (nomark _)) (pe_one (pe_callB (cr_all rfl) rfl B.all_ (by decide +kernel) (pa_cons (pe_lc (own := [("letter", 2)]) rfl sc_are_letters_known.nd (pi_str (pe_op op_add_str (pe_ix ix_tup (pv 1) pe_int (fun _ _ => rfl)) (pe_ix ix_tup (pv 1) pe_int (fun _ _ => rfl)))) (blkOk_by (N := N_are_letters_known) (sc := defScope s_are_letters_known) (by decide +kernel)) (fun _ _ _ _ _ => (pg_name (i := 2) sc_are_letters_known.nd rfl (Or.inl rfl) (.inr rfl))) (fun _ _ _ _ _ => pts_nil) (fun _ _ _ _ _ => (pe_cmpR (in_seqK K rfl) (pv 2) (pv 0) rfl))) pa_nil)))))), ?_⟩
  cases r with
  | put c x l =>
    obtain ⟨h1, h2, h3⟩ := hR
    refine ⟨_, rfl, a, _, 0, _, rfl, rfl, hS, rfl, rfl, _, rfl, ?_⟩
    refine ⟨_, rfl, a, _, 1, _, rfl, rfl, hS, rfl, _, rfl, a, _, 2, _, rfl, rfl, hS, rfl, _, _, rfl, rfl, sl2 (by
      show (tx [c]).length + (tx x).length ≤ 5000
      rw [tx_len, tx_len]
      simp
      omega), _, rfl, fun D nD => ?_⟩
    have hz : (tx [c] ++ tx x) = tx (c :: x) := tx_app [c] x
    refine lc_it walk_str (LcP H D fun i => List.replicate i (V.bl true)) (.start nD rfl) (fun _ _ _ _ => trivial) (fun i x' H1 H2 hi p y => ?_) fun H1 p => ?_
    · obtain ⟨rfl, e, he, rfl⟩ := y
      have hm : e ∈ ns := by
        have he' : e ∈ (tx [c] ++ tx x).cps.toList := Array.mem_toList_iff.mpr (Array.mem_of_getElem? he)
        rw [hz, tx_cps] at he'
        rcases List.mem_cons.mp he' with rfl | z
        · exact h1
        · exact h2 e z
      have hk' : SqL K H2 k (ns.map lv) ∨ SqT K H2 k (ns.map lv) := hk.elim (fun z => .inl (p.1.seq z)) fun z => .inr (sqT_ext p.1 z)
      refine ⟨rfl, _, rfl, _, rfl, k, _, rfl, hk', rfl, flat_lv _, ?_⟩
      show ∃ acc, H2 D = some (.lst acc) ∧ acc.length < sizeLine ∧ LcP H D _ (i + 1) (upd H2 D (.lst (acc ++ [.bl (inV (lv e) (ns.map lv))])))
      rw [inV_lv, decide_eq_true hm]
      refine p.add nD (.refl _) (List.replicate_succ' ..) ?_
      rw [List.length_replicate]
      have : (tx [c] ++ tx x).cps.size = x.length + 1 := by rw [hz]; simp [tx]
      omega
    · refine ⟨D, List.replicate _ true, rfl, .of (by rw [p.2, List.map_replicate]), ?_⟩
      rw [show ∀ n, (List.replicate n true).all id = true from fun n => by simp]
      exact q _ p.1
  | _ => exact ⟨_, rfl, a, _, 0, _, rfl, rfl, hS, rfl, rfl, _, rfl, q _ (.refl _)⟩
end
end Fk

set_option Elab.async false
set_option linter.all false
set_option maxRecDepth 100000
set_option maxHeartbeats 4000000
/-! Fk K3: letters_fault, book_fault, want and what asks. -/
namespace Fk
open PySem PySem.Spec PyProof.Rows L2
theorem dL_at {K : PySem.W.Frag} {H H2 : Hp} {L : Lts} {vs : List V} (h : DpAll K H vs (L.map dE)) (e : Same H H2) {i : Nat} {x : V} (hx : vs[i]? = some x) : ∃ e, L[i]? = some e ∧ Dp K H2 x (dE e) ∧ e ∈ L := by
  obtain ⟨d, g1, g2⟩ := dpA_getV h hx
  rw [List.getElem?_map] at g1
  obtain ⟨e', g3, rfl⟩ := Option.map_eq_some_iff.mp g1
  exact ⟨e', g3, dp_ext e _ _ g2, List.mem_of_getElem? g3⟩
theorem dR_at {K : PySem.W.Frag} {H H2 : Hp} {R : List Rl} {vs : List V} (h : DpAll K H vs (R.map dR)) (e : Same H H2) {i : Nat} {x : V} (hx : vs[i]? = some x) : ∃ r a, R[i]? = some r ∧ x = .ref a ∧ SqT K H2 a (rV r) ∧ r ∈ R := by
  obtain ⟨d, g1, g2⟩ := dpA_getV h hx
  rw [List.getElem?_map] at g1
  obtain ⟨e', g3, rfl⟩ := Option.map_eq_some_iff.mp g1
  obtain ⟨a, rfl, g4⟩ := dp_rule (dp_ext e _ _ g2)
  exact ⟨e', a, g3, rfl, g4, List.mem_of_getElem? g3⟩
def spLfault (K : PySem.W.Frag) : Sp := fun vs H Q _ => ∃ (a : Addr) (L : Lts), vs = [.ref a] ∧ Dp K H (.ref a) (dL L) ∧ LOk L ∧ ∀ H', Same H H' → Q .non H'
def spBfault (K : PySem.W.Frag) : Sp := fun vs H Q _ => ∃ (b : Addr) (L : Lts) (R : List Rl), vs = [.ref b] ∧ Bk K H b L R ∧ BOk L R ∧ ∀ H', Same H H' → Q .non H'
def spWant : Sp := fun vs H Q _ => ∃ (y z : V), vs = [.bl true, y, z] ∧ Q .non H
def spKletters (K : PySem.W.Frag) : Sp := fun vs H Q _ => ∃ (b : Addr) (L : Lts) (R : List Rl), vs = [.ref b] ∧ Bk K H b L R ∧ L.length ≤ 100 ∧ ∀ H' p, Same H H' → SqT K H' p ((names L).map lv) → Q (.ref p) H'
def spThingOf (K : PySem.W.Frag) : Sp := fun vs H Q _ => ∃ (b : Addr) (L : Lts) (R : List Rl) (x : Wd), vs = [.ref b, wv x] ∧ Bk K H b L R ∧ LOk L ∧ WOk L x ∧ ∀ H', Same H H' → Q (.bl true) H'
def spRuleOf (K : PySem.W.Frag) : Sp := fun vs H Q _ => ∃ (b a : Addr) (L : Lts) (R : List Rl) (r : Rl), vs = [.ref b, .ref a] ∧ Bk K H b L R ∧ LOk L ∧ SqT K H a (rV r) ∧ ROk L r ∧ ∀ H', Same H H' → Q (.bl true) H'
def spWantThing (K : PySem.W.Frag) : Sp := fun vs H Q _ => ∃ (y : V) (b : Addr) (L : Lts) (R : List Rl) (x : Wd), vs = [y, .ref b, wv x] ∧ Bk K H b L R ∧ LOk L ∧ WOk L x ∧ ∀ H', Same H H' → Q .non H'
def spLets (K : PySem.W.Frag) : Sp := fun vs H Q _ => ∃ (b : Addr) (L : Lts) (R : List Rl), vs = [.ref b] ∧ Bk K H b L R ∧ BOk L R ∧ ∀ H', Same H H' → Q (.int (L.length : Nat)) H'
section
variable {P : Program} {w : World} {K : PySem.W.Frag} {mg : Str → Option Value} {base : Heap} (B : Bt K mg)
include B
theorem h_letters_fault (D : Def K mg "letters_fault" s_letters_fault [] []) (h_is_entry : Has P w K mg base "is_entry" [] 3 (spEntry K)) (h_reached_letters : Has P w K mg base "reached_letters" [] 1 (spReach K)) : Has P w K mg base "letters_fault" [] 4 (spLfault K) := by
  refine has_of D sc_letters_fault (fun vs H Q E h => by obtain ⟨_, _, rfl, _⟩ := h; rfl) (fun _ _ _ _ _ _ us hl => match us, hl with | [_], _ => rfl) fun f cdv A outer s H vs Q E hr h => ?_
  obtain ⟨a, L, rfl, hd, hL, q⟩ := h
  have hu := hu_of hr
  obtain ⟨_, vL, ea, hS, hA⟩ := dp_tup hd
  cases ea
  have hlen : vL.length = L.length := by rw [dpA_len hA, List.length_map]
  refine ⟨_, (pss_cons (ps_set (i := 1) sc_letters_fault.nd rfl (Or.inl rfl) pe_str)
      (pss_cons (ps_for PassesOwn.never rfl (pi_enumT rfl B.enumerate_ (pa_cons (pv 0) pa_nil)) (pg_tup rfl (pgs_cons (pg_name (i := 2) sc_letters_fault.nd rfl (Or.inl rfl)) (pgs_cons (pg_name (i := 3) sc_letters_fault.nd rfl (Or.inl rfl)) pgs_nil))) (pss_cons (ps_if (PW.pt (pw_or (pt_not (pt_val (pe_has h_is_entry (hr.mono (by decide)) rfl (pa_cons (pv 3) pa_nil)))) (pw_or1 (pt_cmpR op_le_str (pe_ix ix_tup (pv 3) pe_int (fun _ _ => rfl)) (pv 1) (nomark _))))) pss_never pss_nil)
      (pss_one (ps_set (i := 1) sc_letters_fault.nd rfl (Or.inl rfl) (pe_ix ix_tup (pv 3) pe_int (fun _ _ => rfl))))))
      (pss_cons (ps_set (i := 4) sc_letters_fault.nd rfl (Or.inr rfl) (pe_dc (own := [("letter", 5), ("own", 6)]) rfl sc_letters_fault.nd (pi_tup (pv 0)) (blkOk_by (N := N_letters_fault) (sc := defScope s_letters_fault) (by decide +kernel)) (fun _ _ _ _ _ => (pg_tupK K rfl 2 rfl (pgs_cons (pg_name (i := 5) sc_letters_fault.nd rfl (Or.inl rfl) (.inr rfl)) (pgs_cons (pg_name (i := 6) sc_letters_fault.nd rfl (Or.inl rfl) (.inr rfl)) pgs_nil)))) (fun _ _ _ _ _ => pts_nil) (fun _ _ _ _ _ => (pv 5)) (fun _ _ _ _ _ => (pv 6))))
      (pss_cons (ps_for PassesOwn.never rfl (pi_enumT rfl B.enumerate_ (pa_cons (pv 0) pa_nil)) (pg_tup rfl (pgs_cons (pg_name (i := 2) sc_letters_fault.nd rfl (Or.inl rfl)) (pgs_cons (pg_tup rfl (pgs_cons (pg_name (i := 5) sc_letters_fault.nd rfl (Or.inr rfl)) (pgs_cons (pg_name (i := 6) sc_letters_fault.nd rfl (Or.inl rfl)) pgs_nil))) pgs_nil))) (pss_one (ps_if (pt_not (pt_val (pe_callB (cr_all rfl) rfl B.all_ (by decide +kernel) (pa_cons (pe_lc (own := [("one", 7)]) rfl sc_letters_fault.nd (pi_tup (pv 6)) (blkOk_by (N := N_letters_fault) (sc := defScope s_letters_fault) (by decide +kernel)) (fun _ _ _ _ _ => (pg_name (i := 7) sc_letters_fault.nd rfl (Or.inl rfl) (.inr rfl))) (fun _ _ _ _ _ => pts_nil) (fun _ _ _ _ _ => (pe_and (pe_cmp (pc_din hu (pv 7) (pv 4)) rfl) (pe_one (pe_cmpR op_ne (pv 7) (pv 5) (nomark _)))))) pa_nil)))) pss_never pss_nil)))
      (pss_cons (ps_for PassesOwn.never rfl (pi_enumT rfl B.enumerate_ (pa_cons (pv 0) pa_nil)) (pg_tup rfl (pgs_cons (pg_name (i := 2) sc_letters_fault.nd rfl (Or.inl rfl)) (pgs_cons (pg_tup rfl (pgs_cons (pg_name (i := 5) sc_letters_fault.nd rfl (Or.inr rfl)) (pgs_cons (pg_name (i := 6) sc_letters_fault.nd rfl (Or.inl rfl)) pgs_nil))) pgs_nil))) (pss_one (ps_if (pt_cmpR op_in_seq (pv 5) (pe_has h_reached_letters (hr.mono (by decide)) rfl (pa_cons (pv 4) (pa_cons (pv 5) pa_nil))) rfl) pss_never pss_nil)))
      (pss_one (ps_ret pe_non))))))), ?_⟩
  refine ⟨_, rfl, a, _, rfl, hS, ?_⟩
  refine for_it walk_enumT (fun i σ H2 => Same H H2 ∧ ∃ v1 v2, σ = [some (.ref a), some (.str (tx (bef L i))), v1, v2, none, none, none, none]) ⟨.refl _, _, _, rfl⟩ (fun _ _ _ _ p => sqT_ext p.1 hS) (fun i x σ H2 H3 hi p y => ?_) fun σ H2 p => ?_
  · obtain ⟨e2, v1, v2, rfl⟩ := p
    obtain ⟨T, x1, x2, rfl, e3, -, hT, h1, h2⟩ := YPair.same y
    cases h1
    have e23 := e2.trans e3
    obtain ⟨e, he, hde, hm⟩ := dL_at hA e23 h2
    obtain ⟨a1, b1, rfl, k1, k2⟩ := dp_entry hde
    obtain ⟨l1, l2⟩ := hL.les e hm
    have l3 := hL.lsLen (c := e.1) (List.mem_map_of_mem hm)
    rw [lsOf_mem hL.nd hm] at l3
    refine ⟨T, _, rfl, .of hT, rfl, _, _, rfl, _, _, rfl, rfl, ?_⟩
    refine ⟨_, rfl, _, e, rfl, hde, hL.low e hm, l1, fun c hc => hL.nameLow (l2 c hc), by omega, fun H4 e4 => ⟨true, rfl, ?_⟩⟩
    have k1' := sqT_ext e4 k1
    refine ⟨_, rfl, a1, _, 0, _, rfl, rfl, k1', rfl, _, rfl, _, _, rfl, rfl, _, rfl, iteNS (bef_lt hL he) ?_⟩
    refine ⟨_, rfl, a1, _, 0, _, rfl, rfl, k1', rfl, e23.trans e4, some (.int (i : Nat)), some (.ref a1), ?_⟩
    rw [bef_succ he]
    rfl
  · obtain ⟨e2, v1, v2, rfl⟩ := p
    refine ⟨_, rfl, a, rfl, ⟨_, sqT_ext e2 hS⟩, fun Dd nD => ?_⟩
    refine dc_tup (xs := vL) (fun i H3 => Same H2 H3 ∧ ∃ kvs, H3 Dd = some (.dK kvs) ∧ DK K H3 kvs (L.take i)) ⟨same_upd nD, [], upd_same, trivial⟩ (fun _ _ _ p => sqT_ext (e2.trans p.1) hS) (fun i x H3 hx p => ?_) fun H3 p => ?_
    · obtain ⟨e3, kvs, hkv, hk⟩ := p
      obtain ⟨e, he, hde, hm⟩ := dL_at hA (e2.trans e3) hx
      obtain ⟨a1, b1, rfl, k1, k2⟩ := dp_entry hde
      refine ⟨a1, _, rfl, k1, rfl, _, _, rfl, _, _, rfl, rfl, rfl, ?_⟩
      have hn : e.1 ∉ names (L.take i) := by
        intro z
        obtain ⟨e', z1, z2⟩ := List.mem_map.mp z
        obtain ⟨j, hj, z3⟩ := List.mem_take_iff_getElem.mp z1
        obtain ⟨hi', z4⟩ := List.getElem?_eq_some_iff.mp he
        have hlt : j < i := by omega
        have hnl : (names L).length = L.length := by unfold names; rw [List.length_map]
        have := List.pairwise_iff_getElem.mp hL.asc j i (by omega) (by omega) hlt
        simp only [names, List.getElem_map] at this
        rw [z3, z4, z2] at this
        exact Nat.lt_irrefl _ this
      have hle := hk.len
      rw [List.length_take] at hle
      have hL4 := hL.len
      have nD3 : ∀ b o, H2 b = some o → b ≠ Dd := fun b o z => ne_of_none z nD
      refine ⟨_, rfl, _, rfl, kvs, .inr (tx [e.1]), rfl, hkv, by rw [sizeLine_eq]; omega, same_put e3 nD, _, upd_same, ?_⟩
      have hk2 := hk.put hn k2
      rw [List.take_add_one, he]
      refine DK.to hk2 fun b xs z => sqT_new z hkv
    · obtain ⟨e3, kvs, hkv, hk⟩ := p
      rw [hlen, List.take_length] at hk
      have eH := e2.trans e3
      refine ⟨_, rfl, a, _, rfl, sqT_ext eH hS, ?_⟩
      refine for_it walk_enumT (fun i σ H4 => Same H3 H4 ∧ ∃ u1 u2 u3 u4 u5, σ = [some (.ref a), u1, u2, u3, some (.ref Dd), u4, u5, none]) ⟨.refl _, _, _, _, _, _, rfl⟩ (fun _ _ _ _ p => sqT_ext (eH.trans p.1) hS) (fun i x σ H4 H5 hi p y => ?_) fun σ H4 p => ?_
      · obtain ⟨e4, u1, u2, u3, u4, u5, rfl⟩ := p
        obtain ⟨T, x1, x2, rfl, e5, -, hT, h1, h2⟩ := YPair.same y
        cases h1
        have e45 := e4.trans e5
        obtain ⟨e, he, hde, hm⟩ := dL_at hA (eH.trans e45) h2
        obtain ⟨a1, b1, rfl, k1, k2⟩ := dp_entry hde
        obtain ⟨l1, l2⟩ := hL.les e hm
        have l3 := hL.lsLen (c := e.1) (List.mem_map_of_mem hm)
        rw [lsOf_mem hL.nd hm] at l3
        refine ⟨T, _, rfl, .of hT, rfl, _, _, rfl, _, _, rfl, ⟨a1, _, rfl, k1, rfl, _, _, rfl, _, _, rfl, rfl, rfl, ?_⟩⟩
        refine ⟨_, rfl, b1, rfl, ⟨_, k2⟩, fun D2 nD2 => ?_⟩
        refine lc_it (walk_tup (xs := e.2.map lv)) (LcP H5 D2 fun i => List.replicate i (V.bl true)) (.start nD2 rfl) (fun _ H6 _ p => sqT_ext p.1 k2) (fun j x H6 H7 hj p y => ?_) fun H6 p => ?_
        · obtain ⟨rfl, g⟩ := y
          rw [List.getElem?_map] at g
          obtain ⟨c, g', rfl⟩ := Option.map_eq_some_iff.mp g
          have hcm := List.mem_of_getElem? g'
          have e6 : Same H3 H7 := e45.trans p.1
          obtain ⟨b2, g3, g4⟩ := (hk.ext e6).find (l2 c hcm) hL.nd
          refine ⟨rfl, _, rfl, _, rfl, Dd, _, rfl, dgetL (e6 _ _ hkv) g3, true, rfl, ?_⟩
          refine ⟨_, rfl, _, rfl, rfl, ?_⟩
          have hne : ¬ (lv c = lv e.1) := fun z => by
            have z1 := (List.cons.inj (tx_inj (V.str.inj z))).1
            obtain ⟨rk, hrk⟩ := hL.rank
            have := hrk e hm c hcm
            rw [z1] at this
            exact Nat.lt_irrefl _ this
          show ∃ acc, H7 D2 = some (.lst acc) ∧ acc.length < sizeLine ∧ LcP H5 D2 _ (j + 1) (upd H7 D2 (.lst (acc ++ [.bl (!decide (lv c = lv e.1))])))
          rw [decide_eq_false hne]
          refine p.add nD2 (.refl _) (List.replicate_succ' ..) ?_
          rw [List.length_replicate]
          rw [List.length_map] at hj
          omega
        · refine ⟨D2, List.replicate _ true, rfl, .of (by rw [p.2, List.map_replicate]), _, rfl, ?_⟩
          rw [show ∀ n, (List.replicate n true).all id = true from fun n => by simp]
          exact ⟨e45.trans p.1, _, _, _, _, _, rfl⟩
      · obtain ⟨e4, u1, u2, u3, u4, u5, rfl⟩ := p
        refine ⟨_, rfl, a, _, rfl, sqT_ext (eH.trans e4) hS, ?_⟩
        refine for_it walk_enumT (fun i σ H5 => Same H3 H5 ∧ ∃ u1 u2 u3 u4 u5, σ = [some (.ref a), u1, u2, u3, some (.ref Dd), u4, u5, none]) ⟨e4, _, _, _, _, _, rfl⟩ (fun _ _ _ _ p => sqT_ext (eH.trans p.1) hS) (fun i x σ H4 H5 hi p y => ?_) fun σ H4 p => ?_
        · obtain ⟨e4, u1, u2, u3, u4, u5, rfl⟩ := p
          obtain ⟨T, x1, x2, rfl, e5, -, hT, h1, h2⟩ := YPair.same y
          cases h1
          have e45 := e4.trans e5
          obtain ⟨e, he, hde, hm⟩ := dL_at hA (eH.trans e45) h2
          obtain ⟨a1, b1, rfl, k1, k2⟩ := dp_entry hde
          have hc : e.1 ∈ names L := List.mem_map_of_mem hm
          refine ⟨T, _, rfl, .of hT, rfl, _, _, rfl, _, _, rfl, ⟨a1, _, rfl, k1, rfl, _, _, rfl, _, _, rfl, rfl, rfl, ?_⟩⟩
          refine ⟨_, rfl, _, rfl, _, rfl, Dd, L, e.1, rfl, ⟨kvs, e45 _ _ hkv, hk.ext e45⟩, hL, hc, fun H6 p e6 np hp => ?_⟩
          refine ⟨p, _, rfl, .inl (.of hp), rfl, flat_lv _, _, rfl, ?_⟩
          rw [inV_lv, decide_eq_false (reach_self hL hc)]
          exact ⟨e45.trans e6, _, _, _, _, _, rfl⟩
        · obtain ⟨e4, u1, u2, u3, u4, u5, rfl⟩ := p
          exact q _ (eH.trans e4)
theorem h_book_fault (D : Def K mg "book_fault" s_book_fault [] []) (h_is_pair : Has P w K mg base "is_pair" [] 1 (spPair K)) (h_letters_fault : Has P w K mg base "letters_fault" [] 4 (spLfault K))
    (h_is_rule : Has P w K mg base "is_rule" [] 3 (spRule K)) (h_are_letters_known : Has P w K mg base "are_letters_known" [] 1 (spKnown K)) : Has P w K mg base "book_fault" [] 5 (spBfault K) := by
  refine has_of D sc_book_fault (fun vs H Q E h => by obtain ⟨_, _, _, rfl, _⟩ := h; rfl) (fun _ _ _ _ _ _ us hl => match us, hl with | [_], _ => rfl) fun f cdv A outer s H vs Q E hr h => ?_
  obtain ⟨b, L, R, rfl, ⟨l, r, hS, ⟨ls, hls, hlA⟩, ⟨rs, hrs, hrA⟩⟩, hB, q⟩ := h
  have hlen : ls.length = L.length := by rw [dpA_len hlA, List.length_map]
  have hrlen : rs.length = R.length := by rw [dpA_len hrA, List.length_map]
  have hL4 := hB.l.len
  have hR := hB.len
  refine ⟨_, (pss_cons (ps_if (PW.pt (pw_or (pt_not (pt_val (pe_has h_is_pair (hr.mono (by decide)) rfl (pa_cons (pv 0) pa_nil)))) (pw_or (pt_not (pt_val (pe_callB call_isB rfl B.isinstance_ (by decide +kernel) (pa_cons (pe_ix ix_tup (pv 0) pe_int (fun _ _ => rfl)) (pa_cons (pe_ty (n := "tuple") rfl B.tuple_ (by decide +kernel)) pa_nil))))) (pw_or1 (pt_not (pt_val (pe_callB call_isB rfl B.isinstance_ (by decide +kernel) (pa_cons (pe_ix ix_tup (pv 0) pe_int (fun _ _ => rfl)) (pa_cons (pe_ty (n := "tuple") rfl B.tuple_ (by decide +kernel)) pa_nil))))))))) pss_never pss_nil)
      (pss_cons (ps_set (i := 1) sc_book_fault.nd rfl (Or.inl rfl) (pe_has h_letters_fault (hr.mono (by decide)) rfl (pa_cons (pe_ix ix_tup (pv 0) pe_int (fun _ _ => rfl)) pa_nil)))
      (pss_cons (ps_if (pt_cmpR op_notN (pv 1) pe_non (nomark _)) pss_never pss_nil)
      (pss_cons (ps_setLc (i := 2) (own := [("letter", 5), ("lessers", 6)]) rfl sc_book_fault.nd rfl rfl (sw_true rfl rfl rfl (by decide +kernel)) (pi_tup (pe_ix ix_tup (pv 0) pe_int (fun _ _ => rfl))) (blkOk_by (N := N_book_fault) (sc := defScope s_book_fault) (by decide +kernel)) (fun _ _ _ _ _ => (pg_tupK K rfl 2 rfl (pgs_cons (pg_name (i := 5) sc_book_fault.nd rfl (Or.inl rfl) (.inr rfl)) (pgs_cons (pg_name (i := 6) sc_book_fault.nd rfl (Or.inl rfl) (.inr rfl)) pgs_nil)))) (fun _ _ _ _ _ => pts_nil) (fun _ _ _ _ _ => (pv 5)))
      (pss_cons (ps_for PassesOwn.never rfl (pi_enumT rfl B.enumerate_ (pa_cons (pe_ix ix_tup (pv 0) pe_int (fun _ _ => rfl)) pa_nil)) (pg_tup rfl (pgs_cons (pg_name (i := 3) sc_book_fault.nd rfl (Or.inl rfl)) (pgs_cons (pg_name (i := 4) sc_book_fault.nd rfl (Or.inl rfl)) pgs_nil))) (pss_one (ps_if (PW.pt (pw_or (pt_not (pt_val (pe_has h_is_rule (hr.mono (by decide)) rfl (pa_cons (pv 4) pa_nil)))) (pw_or1 (pt_not (pt_val (pe_has h_are_letters_known (hr.mono (by decide)) rfl (pa_cons (pv 2) (pa_cons (pv 4) pa_nil)))))))) pss_never pss_nil)))
      (pss_one (ps_ret pe_non))))))), ?_⟩
  refine ⟨_, rfl, b, _, _, rfl, hS, true, rfl, ?_⟩
  refine ⟨_, rfl, b, _, 0, _, rfl, rfl, hS, rfl, _, "tuple", "tuple", true, rfl, ty_tup hls.sq, ki_tt, true, rfl, ?_⟩
  refine ⟨_, rfl, b, _, 1, _, rfl, rfl, hS, rfl, _, "tuple", "tuple", true, rfl, ty_tup hrs, ki_tt, true, rfl, ?_⟩
  refine ⟨_, rfl, b, _, 0, _, rfl, rfl, hS, rfl, l, L, rfl, .tup hls.sq hlA, hB.l, fun H1 e1 => ?_⟩
  refine ⟨_, rfl, rfl, _, rfl, iteNS rfl ?_⟩
  refine ⟨_, rfl, b, _, 0, _, rfl, rfl, sqT_ext e1 hS, rfl, l, rfl, ⟨_, sqT_ext e1 hls.sq⟩, fun Dk nD => ?_⟩
  refine lc_it (walk_tup (xs := ls)) (LcP H1 Dk fun i => ((names L).take i).map lv) (.start nD rfl) (fun _ H2 _ p => sqT_ext (e1.trans p.1) hls.sq) (fun i x H2 H3 hi p y => ?_) fun H2 p => ?_
  · obtain ⟨rfl, g⟩ := y
    obtain ⟨e, he, hde, hm⟩ := dL_at hlA (e1.trans p.1) g
    obtain ⟨a1, b1, rfl, k1, k2⟩ := dp_entry hde
    refine ⟨a1, _, rfl, k1, rfl, _, _, rfl, _, _, rfl, rfl, rfl, ?_⟩
    refine ⟨_, rfl, p.add nD (.refl _) (map_take_succ lv (names L) (x := e.1) (by unfold names; rw [List.getElem?_map, he]; rfl)) ?_⟩
    rw [List.length_map, List.length_take]
    omega
  · have eH := e1.trans p.1
    have hk : H2 Dk = some (.lst ((names L).map lv)) := by
      have : (names L).length ≤ ls.length := by
        unfold names
        rw [List.length_map]
        omega
      rw [p.2]
      show some (HO.lst (((names L).take ls.length).map lv)) = _
      rw [List.take_of_length_le this]
    refine ⟨_, rfl, b, _, 1, _, rfl, rfl, sqT_ext eH hS, rfl, r, _, rfl, sqT_ext eH hrs, ?_⟩
    refine for_it walk_enumT (fun i σ H3 => Same H2 H3 ∧ ∃ u1 u2, σ = [some (.ref b), some .non, some (.ref Dk), u1, u2, none, none]) ⟨.refl _, _, _, rfl⟩ (fun _ _ _ _ p => sqT_ext (eH.trans p.1) hrs) (fun i x σ H3 H4 hi p y => ?_) fun σ H3 p => ?_
    · obtain ⟨e3, u1, u2, rfl⟩ := p
      obtain ⟨T, x1, x2, rfl, e4, -, hT, h1, h2⟩ := YPair.same y
      cases h1
      have e34 := e3.trans e4
      obtain ⟨rl, a1, hr1, rfl, k1, hm⟩ := dR_at hrA (eH.trans e34) h2
      have ok := hB.r rl hm
      refine ⟨T, _, rfl, .of hT, rfl, _, _, rfl, _, _, rfl, rfl, ?_⟩
      refine ⟨_, rfl, a1, rl, rfl, k1, ok.low hB.l, fun H5 e5 => ⟨true, rfl, ?_⟩⟩
      refine ⟨_, rfl, _, rfl, Dk, a1, names L, rl, rfl, .inl (.of ((e34.trans e5) _ _ hk)), sqT_ext e5 k1, ok.kn, fun H6 e6 => ⟨true, rfl, ?_⟩⟩
      exact ⟨(e34.trans e5).trans e6, _, _, rfl⟩
    · obtain ⟨e3, u1, u2, rfl⟩ := p
      exact q _ (eH.trans e3)
omit B in
theorem h_want (D : Def K mg "want" s_want [.int (-1)] []) : Has P w K mg base "want" [.int (-1)] 1 spWant := by
  refine has_of1 2 D sc_want (fun vs H Q E h => by obtain ⟨_, _, rfl, _⟩ := h; rfl) (by decide) rfl (fun T kV doc pm an cdv ct us its hu hi => ?_) fun f cdv A outer s H vs Q E hr h => ?_
  · match us, its, hu, hi with
    | [_, _], [_], _, _ => exact ⟨_, rfl, rfl⟩
  obtain ⟨y, z, rfl, q⟩ := h
  refine ⟨_, (pss_one (ps_if (pt_not (pt_val (pv 0))) pss_never pss_nil)), ?_⟩
  exact ⟨_, rfl, true, rfl, q⟩
theorem h_known_letters (D : Def K mg "known_letters" s_known_letters [] []) : Has P w K mg base "known_letters" [] 1 (spKletters K) := by
  refine has_of D sc_known_letters (fun vs H Q E h => by obtain ⟨_, _, _, rfl, _⟩ := h; rfl) (fun _ _ _ _ _ _ us hl => match us, hl with | [_], _ => rfl) fun f cdv A outer s H vs Q E hr h => ?_
  obtain ⟨b, L, R, rfl, ⟨l, r, hS, ⟨ls, hls, hlA⟩, hrs⟩, hz, q⟩ := h
  have hlen : ls.length = L.length := by rw [dpA_len hlA, List.length_map]
  refine ⟨_, (pss_one (ps_ret (pe_tupleOf rfl B.tuple_ (pe_lc (own := [("letter", 1), ("lessers", 2)]) rfl sc_known_letters.nd (pi_tup (pe_ix ix_tup (pv 0) pe_int (fun _ _ => rfl))) (blkOk_by (N := N_known_letters) (sc := defScope s_known_letters) (by decide +kernel)) (fun _ _ _ _ _ => (pg_tupK K rfl 2 rfl (pgs_cons (pg_name (i := 1) sc_known_letters.nd rfl (Or.inl rfl) (.inr rfl)) (pgs_cons (pg_name (i := 2) sc_known_letters.nd rfl (Or.inl rfl) (.inr rfl)) pgs_nil)))) (fun _ _ _ _ _ => pts_nil) (fun _ _ _ _ _ => (pv 1)))))), ?_⟩
  refine ⟨_, rfl, b, _, 0, _, rfl, rfl, hS, rfl, l, rfl, ⟨_, hls.sq⟩, fun Dk nD => ?_⟩
  refine lc_it (walk_tup (xs := ls)) (LcP H Dk fun i => ((names L).take i).map lv) (.start nD rfl) (fun _ H2 _ p => sqT_ext p.1 hls.sq) (fun i x H2 H3 hi p y => ?_) fun H2 p => ?_
  · obtain ⟨rfl, g⟩ := y
    obtain ⟨e, he, hde, hm⟩ := dL_at hlA p.1 g
    obtain ⟨a1, b1, rfl, k1, k2⟩ := dp_entry hde
    refine ⟨a1, _, rfl, k1, rfl, _, _, rfl, _, _, rfl, rfl, rfl, ?_⟩
    refine ⟨_, rfl, p.add nD (.refl _) (map_take_succ lv (names L) (x := e.1) (by unfold names; rw [List.getElem?_map, he]; rfl)) ?_⟩
    rw [List.length_map, List.length_take]
    omega
  · have hk : H2 Dk = some (.lst ((names L).map lv)) := by
      have : (names L).length ≤ ls.length := by
        unfold names
        rw [List.length_map]
        omega
      rw [p.2]
      show some (HO.lst (((names L).take ls.length).map lv)) = _
      rw [List.take_of_length_le this]
    exact .inl ⟨Dk, _, rfl, .of hk, fun p' np => q _ p' (p.1.trans (same_upd np)) (.of upd_same)⟩
theorem h_is_thing_of (D : Def K mg "is_thing_of" s_is_thing_of [] []) (h_known_letters : Has P w K mg base "known_letters" [] 1 (spKletters K)) (h_is_thing : Has P w K mg base "is_thing" [] 1 spThing) : Has P w K mg base "is_thing_of" [] 2 (spThingOf K) := by
  refine has_of D sc_is_thing_of (fun vs H Q E h => by obtain ⟨_, _, _, _, rfl, _⟩ := h; rfl) (fun _ _ _ _ _ _ us hl => match us, hl with | [_, _], _ => rfl) fun f cdv A outer s H vs Q E hr h => ?_
  obtain ⟨b, L, R, x, rfl, hb, hL, hx, q⟩ := h
  have hL4 := hL.len
  have hx2 := hx.2
  refine ⟨_, (pss_cons (ps_set (i := 2) sc_is_thing_of.nd rfl (Or.inr rfl) (pe_has h_known_letters (hr.mono (by decide)) rfl (pa_cons (pv 0) pa_nil)))
      (pss_one (ps_ret (pe_and (pe_has h_is_thing (hr.mono (by decide)) rfl (pa_cons (pv 1) pa_nil)) (pe_one (pe_callB (cr_all rfl) rfl B.all_ (by decide +kernel) (pa_cons (pe_lc (own := [("letter", 3)]) rfl sc_is_thing_of.nd (pi_str (pv 1)) (blkOk_by (N := N_is_thing_of) (sc := defScope s_is_thing_of) (by decide +kernel)) (fun _ _ _ _ _ => (pg_name (i := 3) sc_is_thing_of.nd rfl (Or.inl rfl) (.inr rfl))) (fun _ _ _ _ _ => pts_nil) (fun _ _ _ _ _ => (pe_cmpR (in_seqK K rfl) (pv 3) (pv 2) rfl))) pa_nil))))))), ?_⟩
  refine ⟨_, rfl, b, L, R, rfl, hb, by omega, fun H1 k e1 hk => ?_⟩
  refine ⟨_, rfl, x, rfl, fun c hc => hL.nameLow (hx.1 c hc), by omega, fun H2 e2 => ⟨true, rfl, ?_⟩⟩
  refine ⟨_, rfl, _, rfl, fun Dk nD => ?_⟩
  refine lc_it walk_str (LcP H2 Dk fun i => List.replicate i (V.bl true)) (.start nD rfl) (fun _ _ _ _ => trivial) (fun i x' H3 H4 hi p y => ?_) fun H3 p => ?_
  · obtain ⟨rfl, e, he, rfl⟩ := y
    have hm : e ∈ names L := by
      have he' : e ∈ (tx x).cps.toList := Array.mem_toList_iff.mpr (Array.mem_of_getElem? he)
      rw [tx_cps] at he'
      exact hx.1 e he'
    refine ⟨rfl, _, rfl, _, rfl, k, _, rfl, .inr (sqT_ext (e2.trans p.1) hk), rfl, flat_lv _, ?_⟩
    show ∃ acc, H4 Dk = some (.lst acc) ∧ acc.length < sizeLine ∧ LcP H2 Dk _ (i + 1) (upd H4 Dk (.lst (acc ++ [.bl (inV (lv e) ((names L).map lv))])))
    rw [inV_lv, decide_eq_true hm]
    refine p.add nD (.refl _) (List.replicate_succ' ..) ?_
    rw [List.length_replicate]
    have : (tx x).cps.size = x.length := by simp [tx]
    omega
  · refine ⟨Dk, List.replicate _ true, rfl, .of (by rw [p.2, List.map_replicate]), ?_⟩
    rw [show ∀ n, (List.replicate n true).all id = true from fun n => by simp]
    exact q _ ((e1.trans e2).trans p.1)
omit B in
theorem h_is_rule_of (D : Def K mg "is_rule_of" s_is_rule_of [] []) (h_is_rule : Has P w K mg base "is_rule" [] 3 (spRule K)) (h_are_letters_known : Has P w K mg base "are_letters_known" [] 1 (spKnown K)) (h_known_letters : Has P w K mg base "known_letters" [] 1 (spKletters K)) : Has P w K mg base "is_rule_of" [] 4 (spRuleOf K) := by
  refine has_of D sc_is_rule_of (fun vs H Q E h => by obtain ⟨_, _, _, _, _, rfl, _⟩ := h; rfl) (fun _ _ _ _ _ _ us hl => match us, hl with | [_, _], _ => rfl) fun f cdv A outer s H vs Q E hr h => ?_
  obtain ⟨b, a, L, R, rl, rfl, hb, hL, hS, ok, q⟩ := h
  have hL4 := hL.len
  refine ⟨_, (pss_one (ps_ret (pe_and (pe_has h_is_rule (hr.mono (by decide)) rfl (pa_cons (pv 1) pa_nil)) (pe_one (pe_has h_are_letters_known (hr.mono (by decide)) rfl (pa_cons (pe_has h_known_letters (hr.mono (by decide)) rfl (pa_cons (pv 0) pa_nil)) (pa_cons (pv 1) pa_nil))))))), ?_⟩
  refine ⟨_, rfl, a, rl, rfl, hS, ok.low hL, fun H1 e1 => ⟨true, rfl, ?_⟩⟩
  refine ⟨_, rfl, b, L, R, rfl, hb.ext e1, by omega, fun H2 k e2 hk => ?_⟩
  exact ⟨_, rfl, k, a, names L, rl, rfl, .inr hk, sqT_ext (e1.trans e2) hS, ok.kn, fun H3 e3 => q _ ((e1.trans e2).trans e3)⟩
omit B in
theorem h_want_thing (D : Def K mg "want_thing" s_want_thing [] []) (h_want : Has P w K mg base "want" [.int (-1)] 1 spWant) (h_is_thing_of : Has P w K mg base "is_thing_of" [] 2 (spThingOf K)) : Has P w K mg base "want_thing" [] 3 (spWantThing K) := by
  refine has_of D sc_want_thing (fun vs H Q E h => by obtain ⟨_, _, _, _, _, rfl, _⟩ := h; rfl) (fun _ _ _ _ _ _ us hl => match us, hl with | [_, _, _], _ => rfl) fun f cdv A outer s H vs Q E hr h => ?_
  obtain ⟨y, b, L, R, x, rfl, hb, hL, hx, q⟩ := h
  refine ⟨_, (pss_one (ps_expr (pe_has h_want (hr.mono (by decide)) rfl (pa_cons (pe_has h_is_thing_of (hr.mono (by decide)) rfl (pa_cons (pv 1) (pa_cons (pv 2) pa_nil))) (pa_cons (pv 0) pa_nil))))), ?_⟩
  exact ⟨_, rfl, _, rfl, b, L, R, x, rfl, hb, hL, hx, fun H1 e1 => ⟨_, rfl, _, _, rfl, q _ e1⟩⟩
theorem h_lets_book (D : Def K mg "lets_book" s_lets_book [] []) (h_book_fault : Has P w K mg base "book_fault" [] 5 (spBfault K)) : Has P w K mg base "lets_book" [] 6 (spLets K) := by
  refine has_of D sc_lets_book (fun vs H Q E h => by obtain ⟨_, _, _, rfl, _⟩ := h; rfl) (fun _ _ _ _ _ _ us hl => match us, hl with | [_], _ => rfl) fun f cdv A outer s H vs Q E hr h => ?_
  obtain ⟨b, L, R, rfl, hb, hB, q⟩ := h
  refine ⟨_, (pss_cons (ps_set (i := 1) sc_lets_book.nd rfl (Or.inl rfl) (pe_has h_book_fault (hr.mono (by decide)) rfl (pa_cons (pv 0) pa_nil)))
      (pss_cons (ps_if (pt_cmpR op_notN (pv 1) pe_non (nomark _)) pss_never pss_nil)
      (pss_one (ps_ret (pe_callB call_len_seq rfl B.len_ (by decide +kernel) (pa_cons (pe_ix ix_tup (pv 0) pe_int (fun _ _ => rfl)) pa_nil)))))), ?_⟩
  refine ⟨_, rfl, b, L, R, rfl, hb, hB, fun H1 e1 => ?_⟩
  obtain ⟨l, r, hS, ⟨ls, hls, hlA⟩, hrs⟩ := hb.ext e1
  refine ⟨_, rfl, rfl, _, rfl, iteNS rfl ?_⟩
  have hlen : ls.length = L.length := by rw [dpA_len hlA, List.length_map]
  exact ⟨_, rfl, b, _, 0, _, rfl, rfl, hS, rfl, l, _, rfl, .inr hls.sq, by rw [hlen]; exact q _ e1⟩
end
end Fk

set_option Elab.async false
set_option linter.all false
set_option maxRecDepth 100000
set_option maxHeartbeats 4000000
/-! Fk K4: changes of books. -/
namespace Fk
open PySem PySem.Spec PyProof.Rows L2
theorem two_ok {a b : V} : [a, b].length ≤ sizeLine := by
  show 2 ≤ sizeLine
  decide
def HasK (P : Program) (w : World) (K : PySem.W.Frag) (mg : Str → Option Value) (base : Heap) (x : Str) (n : Nat) (ks : List Str) (k : Nat) (sp : Sp) : Prop :=
  ∃ f fd ps, FnOk P w K mg base CX0 k f fd ps sp ∧ mg x = some (.ref f) ∧ PySem.W.keepIn K (.ref f) = true ∧ KBn K fd ps n ks (fun us ws => us ++ ws) (fun vs zs => vs ++ zs)
theorem pe_hask {X : Cx} {x : Str} {n k : Nat} {ks : List Str} {sp : Sp} {e : Expr} {es : List Expr} {kws : List Keyword} {t tk : TA} {p pos : Pos} (h : HasK X.prog X.w X.K X.mg X.base x n ks k sp) (hr : Room k X.A) (hg : Gl X x) (ha : PA X (e :: es) t) (hkw : PK X kws tk)
    (hall : (backToKw pos (keywordEach kws X.env)).all (·.1.isSome) = true := by rfl) (hks : (backToKw pos (keywordEach kws X.env)).filterMap (·.1) = ks := by rfl)
    (hdb : (x == ("__debug__" : Str)) = false := by decide) (he : starEach (e :: es) X.env = (false, eval e X.env) :: starEach es X.env := by rfl)
    (hpl : ((backTo pos (starEach (e :: es) X.env)).any (·.1) || (backToKw pos (keywordEach kws X.env)).any (·.1.isNone)) = false := by rfl) :
    PE X (.Call (.Name x p) (e :: es) kws pos) (tCallN n ks.length sp (fun vs zs => vs ++ zs) E0 t tk) := by
  obtain ⟨f, fd, ps, F, hm, hk, hb⟩ := h
  exact pe_callN F hr hg hm hk hb pass0 ha hkw hall hks hdb he hpl
theorem RsAt.put {K : PySem.W.Frag} {H : Hp} {p a : Addr} {rs : List V} {R : List Rl} {r : Rl} {i : Nat} (hA : DpAll K H rs (R.map dR)) (h : SqT K H p (rs.take i ++ (.ref a :: rs.drop i))) (hr : SqT K H a (rV r)) : RsAt K H p (insAt R r i) := by
  refine ⟨_, h, ?_⟩
  unfold insAt
  rw [List.map_append, List.map_cons, List.map_take, List.map_drop]
  exact dpA_app (dpA_take _ hA) (.cons (dp_ofRule hr) (dpA_drop _ hA))
theorem RsAt.cut {K : PySem.W.Frag} {H : Hp} {p : Addr} {rs : List V} {R : List Rl} {k : Nat} (hA : DpAll K H rs (R.map dR)) (h : SqT K H p (rs.take k ++ rs.drop (k + 1))) : RsAt K H p (cutAt R k) := by
  refine ⟨_, h, ?_⟩
  unfold cutAt
  rw [List.map_append, List.map_take, List.map_drop]
  exact dpA_app (dpA_take _ hA) (dpA_drop _ hA)
def spPutIn (K : PySem.W.Frag) : Sp := fun vs H Q _ => ∃ (rs : Addr) (xs : List V) (x : V) (i : Nat), vs = [.ref rs, x, .int (i : Nat)] ∧ SqT K H rs xs ∧ xs.length ≤ 1000 ∧ ∀ H' p, Same H H' → SqT K H' p (xs.take i ++ (x :: xs.drop i)) → Q (.ref p) H'
def spWith (K : PySem.W.Frag) : Sp := fun vs H Q _ => ∃ (b a : Addr) (at_ : V) (L : Lts) (R : List Rl) (r : Rl) (i : Nat), vs = [.ref b, .ref a, at_] ∧ Bk K H b L R ∧ LOk L ∧ R.length ≤ 100 ∧ SqT K H a (rV r) ∧ ROk L r ∧
  ((at_ = .non ∧ i = R.length) ∨ (at_ = .int (i : Nat) ∧ i ≤ R.length)) ∧ ∀ H' p, Same H H' → Bk K H' p L (insAt R r i) → Q (.ref p) H'
def spWithout (K : PySem.W.Frag) : Sp := fun vs H Q _ => ∃ (b : Addr) (L : Lts) (R : List Rl) (k : Nat), vs = [.ref b, .int (k : Nat)] ∧ Bk K H b L R ∧ R.length ≤ 100 ∧ k < R.length ∧ ∀ H' p, Same H H' → Bk K H' p L (cutAt R k) → Q (.ref p) H'
def spMoved (K : PySem.W.Frag) : Sp := fun vs H Q _ => ∃ (b : Addr) (L : Lts) (R : List Rl) (k j : Nat) (r : Rl), vs = [.ref b, .int (k : Nat), .int (j : Nat)] ∧ Bk K H b L R ∧ R.length ≤ 100 ∧ R[k]? = some r ∧ j < R.length ∧ ∀ H' p, Same H H' → Bk K H' p L (insAt (cutAt R k) r j) → Q (.ref p) H'
def spMirR (K : PySem.W.Frag) : Sp := fun vs H Q _ => ∃ (a : Addr) (r : Rl), vs = [.ref a] ∧ SqT K H a (rV r) ∧ ∀ H' p, Same H H' → SqT K H' p (rV (mirR r)) → Q (.ref p) H'
def spMir (K : PySem.W.Frag) : Sp := fun vs H Q _ => ∃ (b : Addr) (L : Lts) (R : List Rl), vs = [.ref b] ∧ Bk K H b L R ∧ R.length ≤ 100 ∧ ∀ H' p, Same H H' → Bk K H' p L (R.map mirR) → Q (.ref p) H'
/-- the new list at D holds the data ds i, all else of H1 stands -/
def LcD (K : PySem.W.Frag) (H1 : Hp) (D : Addr) (ds : Nat → List PyData) (i : Nat) (H : Hp) : Prop := Same H1 H ∧ ∃ vs, H D = some (.lst vs) ∧ DpAll K H vs (ds i)
theorem LcD.start {K : PySem.W.Frag} {H1 : Hp} {D : Addr} {ds : Nat → List PyData} (n : H1 D = none) (h0 : ds 0 = []) : LcD K H1 D ds 0 (upd H1 D (.lst [])) := ⟨same_upd n, [], upd_same, by rw [h0]; exact .nil⟩
theorem LcD.add {K : PySem.W.Frag} {H1 H H' : Hp} {D : Addr} {ds : Nat → List PyData} {i : Nat} {y : V} {d : PyData} (n : H1 D = none) (p : LcD K H1 D ds i H) (e : Same H H') (hd : Dp K H' y d) (ho : ds (i + 1) = ds i ++ [d]) (hn : noLA (ds i)) (hn2 : noL d) (hz : (ds i).length < 5000) :
    ∃ acc, H' D = some (.lst acc) ∧ acc.length < sizeLine ∧ LcD K H1 D ds (i + 1) (upd H' D (.lst (acc ++ [y]))) := by
  obtain ⟨e1, vs, hv, hA⟩ := p
  have hv' := e _ _ hv
  have b : SameBut D H' (upd H' D (.lst (vs ++ [y]))) := fun c o hc h => by rw [upd_ne hc]; exact h
  refine ⟨vs, hv', by rw [dpA_len hA, sizeLine_eq]; omega, same_put (e1.trans e) n, _, upd_same, ?_⟩
  rw [ho]
  exact dpA_app (dpA_but b hv' _ _ hn (dpA_ext e _ _ hA)) (.cons (dp_but b hv' _ _ hn2 hd) .nil)
section
variable {P : Program} {w : World} {K : PySem.W.Frag} {mg : Str → Option Value} {base : Heap} (B : Bt K mg)
theorem h_put_in (D : Def K mg "put_in" s_put_in [] []) : Has P w K mg base "put_in" [] 1 (spPutIn K) := by
  refine has_of D sc_put_in (fun vs H Q E h => by obtain ⟨_, _, _, _, rfl, _⟩ := h; rfl) (fun _ _ _ _ _ _ us hl => match us, hl with | [_, _, _], _ => rfl) fun f cdv A outer s H vs Q E hr h => ?_
  obtain ⟨rs, xs, x, i, rfl, hS, hz, q⟩ := h
  refine ⟨_, (pss_one (ps_ret (pe_tup (StX.pa_star (pe_slice sl_tupS (pv 0) po_none (po_some (pv 2))) (pa_cons (pv 1) (StX.pa_star (pe_slice sl_tupS (pv 0) (po_some (pv 2)) po_none) pa_nil)))))), ?_⟩
  refine ⟨_, rfl, _, rfl, _, rfl, rs, _, rfl, hS, fun p1 H1 e1 h1 => ⟨p1, _, rfl, .inl h1, ?_⟩⟩
  refine ⟨_, rfl, _, rfl, _, rfl, _, rfl, rs, _, rfl, sqT_ext e1 hS, fun p2 H2 e2 h2 => ⟨p2, _, rfl, .inl h2, ?_⟩⟩
  rw [cutV_to] at h1 ⊢
  rw [cutV_from] at h2 ⊢
  refine ⟨sl2 (by simp; omega), fun p np => q _ p ((e1.trans e2).trans (same_upd np)) (.of ?_)⟩
  rw [upd_same, List.append_nil]
include B
theorem h_with_rule (D : Def K mg "with_rule" s_with_rule [] [("at", .non)]) (h_want : Has P w K mg base "want" [.int (-1)] 1 spWant) (h_is_rule_of : Has P w K mg base "is_rule_of" [] 4 (spRuleOf K)) (h_is_number : Has P w K mg base "is_number" [] 2 spNum)
    (h_put_in : Has P w K mg base "put_in" [] 1 (spPutIn K)) : Has P w K mg base "with_rule" [.non] 5 (spWith K) ∧ HasK P w K mg base "with_rule" 2 ["at"] 5 (spWith K) := by
  obtain ⟨f, fd, F, hm⟩ := D
  have ok : FnOk P w K mg base CX0 5 f fd ["book", "rule", "at"] (spWith K) := by
    refine F.ok sc_with_rule (fun vs H Q E h => by obtain ⟨_, _, _, _, _, _, _, rfl, _⟩ := h; rfl) (fun cdv A outer s H vs Q E hr h => ?_)
    obtain ⟨b, a, at_, L, R, r, i, rfl, hb, hL, hz, hS, hok, hat, q⟩ := h
    refine ⟨_, PSs.nox (pss_cons (ps_expr (pe_has h_want (hr.mono (by decide)) rfl (pa_cons (pe_has h_is_rule_of (hr.mono (by decide)) rfl (pa_cons (pv 0) (pa_cons (pv 1) pa_nil))) (pa_cons pe_str pa_nil))))
      (pss_cons (ps_expr (pe_has h_want (hr.mono (by decide)) rfl (pa_cons (pe_or (pe_cmpR op_isN (pv 2) pe_non (nomark _)) (pe_one (pe_and (pe_has h_is_number (hr.mono (by decide)) rfl (pa_cons (pv 2) pa_nil)) (pe_one (pe_cmpR op_le (pv 2) (pe_callB call_len_seq rfl B.len_ (by decide +kernel) (pa_cons (pe_ix ix_tup (pv 0) pe_int (fun _ _ => rfl)) pa_nil)) (nomark _)))))) (pa_cons pe_str pa_nil))))
      (pss_one (ps_ret (pe_tup (pa_cons (pe_ix ix_tup (pv 0) pe_int (fun _ _ => rfl)) (pa_cons (pe_has h_put_in (hr.mono (by decide)) rfl (pa_cons (pe_ix ix_tup (pv 0) pe_int (fun _ _ => rfl)) (pa_cons (pv 1) (pa_cons (pe_ifExp (pt_cmpR op_isN (pv 2) pe_non (nomark _)) (pe_callB call_len_seq rfl B.len_ (by decide +kernel) (pa_cons (pe_ix ix_tup (pv 0) pe_int (fun _ _ => rfl)) pa_nil)) (pv 2)) pa_nil)))) pa_nil))))))), ?_⟩
    refine ⟨_, rfl, _, rfl, b, a, L, R, r, rfl, hb, hL, hS, hok, fun H1 e1 => ⟨_, _, rfl, ?_⟩⟩
    obtain ⟨l, rr, hS1, hlt, ⟨rs, hrs, hrA⟩⟩ := hb.ext e1
    have hrl : rs.length = R.length := by rw [dpA_len hrA, List.length_map]
    rcases hat with ⟨rfl, rfl⟩ | ⟨rfl, hi⟩
    · refine ⟨_, rfl, rfl, _, rfl, iteD rfl ⟨_, _, rfl, ?_⟩⟩
      refine ⟨_, rfl, b, _, 0, _, rfl, rfl, hS1, rfl, _, rfl, b, _, 1, _, rfl, rfl, hS1, rfl, _, rfl, _, rfl, rfl, _, rfl, iteD rfl ⟨_, rfl, b, _, 1, _, rfl, rfl, hS1, rfl, rr, _, rfl, .inr hrs, rr, rs, _, rs.length, rfl, hrs, by omega, fun H2 p e2 hp => ?_⟩⟩
      refine ⟨two_ok, fun p' np => q _ p' ((e1.trans e2).trans (same_upd np)) ⟨l, p, .of upd_same, (hlt.ext e2).ext (same_upd np), ?_⟩⟩
      have e3 := e2.trans (same_upd (o := .tup [.ref l, .ref p]) np)
      rw [← hrl]
      exact RsAt.put (dpA_ext e3 _ _ hrA) (sqT_ext (same_upd np) hp) (sqT_ext (e1.trans e3) hS)
    · refine ⟨_, rfl, rfl, _, rfl, iteDN (by intro z; cases z) ?_⟩
      refine ⟨_, rfl, i, rfl, by omega, true, rfl, ?_⟩
      refine ⟨_, rfl, _, rfl, b, _, 1, _, rfl, rfl, hS1, rfl, rr, _, rfl, .inr hrs, _, _, rfl, rfl, ?_⟩
      refine ⟨.str "at", .int (-1), congrArg (fun z => [V.bl z, V.str "at", V.int (-1)]) (decide_eq_true (by omega)), ?_⟩
      refine ⟨_, rfl, b, _, 0, _, rfl, rfl, hS1, rfl, _, rfl, b, _, 1, _, rfl, rfl, hS1, rfl, _, rfl, _, rfl, rfl, _, rfl, iteDN (by intro z; cases z) ⟨_, rfl, rr, rs, _, i, rfl, hrs, by omega, fun H2 p e2 hp => ?_⟩⟩
      refine ⟨two_ok, fun p' np => q _ p' ((e1.trans e2).trans (same_upd np)) ⟨l, p, .of upd_same, (hlt.ext e2).ext (same_upd np), ?_⟩⟩
      have e3 := e2.trans (same_upd (o := .tup [.ref l, .ref p]) np)
      exact RsAt.put (dpA_ext e3 _ _ hrA) (sqT_ext (same_upd np) hp) (sqT_ext (e1.trans e3) hS)
  obtain ⟨ds, hds, hb⟩ := F.binds0 (ps := ["book", "rule", "at"]) 2 (by decide) rfl fun D doc pm an cdv ct us ks hu hk => by
    match us, ks, hu, hk with
    | [_, _], [_], _, _ => exact ⟨_, _, _, _, _, _, rfl, rfl, rfl⟩
  obtain ⟨mv, kb⟩ := F.kbinds0 (ps := ["book", "rule", "at"]) 2 ["at"] [] (fun us mv ws => us ++ ws) (by decide) (fun _ h => nomatch h) (fun a b c => a.append c) fun D doc pm an cdv ct us mv ws hu hm hw => by
    match us, ws, hu, hw with
    | [_, _], [_], _, _ => exact rfl
  exact ⟨⟨f, fd, _, ds, ok, hm, F.kp, hb, hds⟩, ⟨f, fd, _, ok, hm, F.kp, kb⟩⟩
omit B in
theorem h_without_rule (D : Def K mg "without_rule" s_without_rule [] []) (h_want : Has P w K mg base "want" [.int (-1)] 1 spWant) (h_is_number : Has P w K mg base "is_number" [] 2 spNum) (B : Bt K mg) : Has P w K mg base "without_rule" [] 3 (spWithout K) := by
  refine has_of D sc_without_rule (fun vs H Q E h => by obtain ⟨_, _, _, _, rfl, _⟩ := h; rfl) (fun _ _ _ _ _ _ us hl => match us, hl with | [_, _], _ => rfl) fun f cdv A outer s H vs Q E hr h => ?_
  obtain ⟨b, L, R, k, rfl, ⟨l, rr, hS, hlt, ⟨rs, hrs, hrA⟩⟩, hz, hk, q⟩ := h
  have hrl : rs.length = R.length := by rw [dpA_len hrA, List.length_map]
  refine ⟨_, (pss_cons (ps_expr (pe_has h_want (hr.mono (by decide)) rfl (pa_cons (pe_and (pe_has h_is_number (hr.mono (by decide)) rfl (pa_cons (pv 1) pa_nil)) (pe_one (pe_cmpR op_lt (pv 1) (pe_callB call_len_seq rfl B.len_ (by decide +kernel) (pa_cons (pe_ix ix_tup (pv 0) pe_int (fun _ _ => rfl)) pa_nil)) (nomark _)))) (pa_cons pe_str pa_nil))))
      (pss_one (ps_ret (pe_tup (pa_cons (pe_ix ix_tup (pv 0) pe_int (fun _ _ => rfl)) (pa_cons (pe_op op_catS (pe_slice sl_tupS (pe_ix ix_tup (pv 0) pe_int (fun _ _ => rfl)) po_none (po_some (pv 1))) (pe_slice sl_tupS (pe_ix ix_tup (pv 0) pe_int (fun _ _ => rfl)) (po_some (pe_op op_add (pv 1) pe_int)) po_none)) pa_nil)))))), ?_⟩
  refine ⟨_, rfl, k, rfl, by omega, true, rfl, ?_⟩
  refine ⟨_, rfl, _, rfl, b, _, 1, _, rfl, rfl, hS, rfl, rr, _, rfl, .inr hrs, _, _, rfl, rfl, ?_⟩
  refine ⟨.str "k", .int (-1), congrArg (fun z => [V.bl z, V.str "k", V.int (-1)]) (decide_eq_true (by omega)), ?_⟩
  refine ⟨_, rfl, b, _, 0, _, rfl, rfl, hS, rfl, ?_⟩
  refine ⟨_, rfl, b, _, 1, _, rfl, rfl, hS, rfl, _, rfl, _, rfl, rr, _, rfl, hrs, fun p1 H1 e1 h1 => ?_⟩
  refine ⟨_, rfl, b, _, 1, _, rfl, rfl, sqT_ext e1 hS, rfl, _, rfl, _, _, rfl, rfl, _, rfl, rr, _, rfl, sqT_ext e1 hrs, fun p2 H2 e2 h2 => ?_⟩
  rw [cutV_to] at h1
  rw [show (some ((k : Int) + 1) : Option Int) = some (((k + 1 : Nat)) : Int) by rw [Int.natCast_add]; rfl, cutV_from] at h2
  refine ⟨p1, p2, _, _, rfl, rfl, sqT_ext e2 h1, h2, by simp; omega, fun p3 H3 e3 h3 => ?_⟩
  refine ⟨two_ok, fun p' np => q _ p' (((e1.trans e2).trans e3).trans (same_upd np)) ⟨l, p3, .of upd_same, hlt.ext (((e1.trans e2).trans e3).trans (same_upd np)), ?_⟩⟩
  exact RsAt.cut (dpA_ext (((e1.trans e2).trans e3).trans (same_upd np)) _ _ hrA) (sqT_ext (same_upd np) h3)
omit B in
theorem h_moved_rule (D : Def K mg "moved_rule" s_moved_rule [] []) (h_want : Has P w K mg base "want" [.int (-1)] 1 spWant) (h_is_number : Has P w K mg base "is_number" [] 2 spNum) (h_put_in : Has P w K mg base "put_in" [] 1 (spPutIn K)) (B : Bt K mg) : Has P w K mg base "moved_rule" [] 3 (spMoved K) := by
  refine has_of D sc_moved_rule (fun vs H Q E h => by obtain ⟨_, _, _, _, _, _, rfl, _⟩ := h; rfl) (fun _ _ _ _ _ _ us hl => match us, hl with | [_, _, _], _ => rfl) fun f cdv A outer s H vs Q E hr h => ?_
  obtain ⟨b, L, R, k, j, r, rfl, ⟨l, rr, hS, hlt, ⟨rs, hrs, hrA⟩⟩, hz, hk, hj, q⟩ := h
  have hrl : rs.length = R.length := by rw [dpA_len hrA, List.length_map]
  have hkl : k < R.length := (List.getElem?_eq_some_iff.mp hk).1
  obtain ⟨v, hv, hvd⟩ := dpA_get hrA (i := k) (d := dR r) (by rw [List.getElem?_map, hk]; rfl)
  obtain ⟨a, rfl, ha⟩ := dp_rule hvd
  refine ⟨_, (pss_cons (ps_expr (pe_has h_want (hr.mono (by decide)) rfl (pa_cons (pe_and (pe_has h_is_number (hr.mono (by decide)) rfl (pa_cons (pv 1) pa_nil)) (pe_one (pe_cmpR op_lt (pv 1) (pe_callB call_len_seq rfl B.len_ (by decide +kernel) (pa_cons (pe_ix ix_tup (pv 0) pe_int (fun _ _ => rfl)) pa_nil)) (nomark _)))) (pa_cons pe_str pa_nil))))
      (pss_cons (ps_expr (pe_has h_want (hr.mono (by decide)) rfl (pa_cons (pe_and (pe_has h_is_number (hr.mono (by decide)) rfl (pa_cons (pv 2) pa_nil)) (pe_one (pe_cmpR op_lt (pv 2) (pe_callB call_len_seq rfl B.len_ (by decide +kernel) (pa_cons (pe_ix ix_tup (pv 0) pe_int (fun _ _ => rfl)) pa_nil)) (nomark _)))) (pa_cons pe_str pa_nil))))
      (pss_cons (ps_set (i := 3) sc_moved_rule.nd rfl (Or.inl rfl) (pe_op op_catS (pe_slice sl_tupS (pe_ix ix_tup (pv 0) pe_int (fun _ _ => rfl)) po_none (po_some (pv 1))) (pe_slice sl_tupS (pe_ix ix_tup (pv 0) pe_int (fun _ _ => rfl)) (po_some (pe_op op_add (pv 1) pe_int)) po_none)))
      (pss_one (ps_ret (pe_tup (pa_cons (pe_ix ix_tup (pv 0) pe_int (fun _ _ => rfl)) (pa_cons (pe_has h_put_in (hr.mono (by decide)) rfl (pa_cons (pv 3) (pa_cons (pe_ix ix_tup (pe_ix ix_tup (pv 0) pe_int (fun _ _ => rfl)) (pv 1) (fun _ _ => rfl)) (pa_cons (pv 2) pa_nil)))) pa_nil)))))))), ?_⟩
  refine ⟨_, rfl, k, rfl, by omega, true, rfl, ?_⟩
  refine ⟨_, rfl, _, rfl, b, _, 1, _, rfl, rfl, hS, rfl, rr, _, rfl, .inr hrs, _, _, rfl, rfl, ?_⟩
  refine ⟨.str "k", .int (-1), congrArg (fun z => [V.bl z, V.str "k", V.int (-1)]) (decide_eq_true (by omega)), ?_⟩
  refine ⟨_, rfl, j, rfl, by omega, true, rfl, ?_⟩
  refine ⟨_, rfl, _, rfl, b, _, 1, _, rfl, rfl, hS, rfl, rr, _, rfl, .inr hrs, _, _, rfl, rfl, ?_⟩
  refine ⟨.str "at", .int (-1), congrArg (fun z => [V.bl z, V.str "at", V.int (-1)]) (decide_eq_true (by omega)), ?_⟩
  refine ⟨_, rfl, b, _, 1, _, rfl, rfl, hS, rfl, _, rfl, _, rfl, rr, _, rfl, hrs, fun p1 H1 e1 h1 => ?_⟩
  refine ⟨_, rfl, b, _, 1, _, rfl, rfl, sqT_ext e1 hS, rfl, _, rfl, _, _, rfl, rfl, _, rfl, rr, _, rfl, sqT_ext e1 hrs, fun p2 H2 e2 h2 => ?_⟩
  rw [cutV_to] at h1
  rw [show (some ((k : Int) + 1) : Option Int) = some (((k + 1 : Nat)) : Int) by rw [Int.natCast_add]; rfl, cutV_from] at h2
  refine ⟨p1, p2, _, _, rfl, rfl, sqT_ext e2 h1, h2, by simp; omega, fun p3 H3 e3 h3 => ?_⟩
  have e13 := (e1.trans e2).trans e3
  refine ⟨_, rfl, b, _, 0, _, rfl, rfl, sqT_ext e13 hS, rfl, _, rfl, _, rfl, b, _, 1, _, rfl, rfl, sqT_ext e13 hS, rfl, _, rfl, rr, _, _, _, rfl, rfl, sqT_ext e13 hrs, atI_nat hv, _, rfl, p3, _, _, j, rfl, h3, by simp; omega, fun H4 p4 e4 h4 => ?_⟩
  refine ⟨two_ok, fun p' np => q _ p' ((e13.trans e4).trans (same_upd np)) ⟨l, p4, .of upd_same, hlt.ext ((e13.trans e4).trans (same_upd np)), ?_⟩⟩
  have eA := (e13.trans e4).trans (same_upd (o := .tup [.ref l, .ref p4]) np)
  refine RsAt.put (rs := rs.take k ++ rs.drop (k + 1)) ?_ (sqT_ext (same_upd np) h4) (sqT_ext eA ha)
  unfold cutAt
  rw [List.map_append, List.map_take, List.map_drop]
  exact dpA_app (dpA_take _ (dpA_ext eA _ _ hrA)) (dpA_drop _ (dpA_ext eA _ _ hrA))
omit B in
theorem h_mirrored_rule (D : Def K mg "mirrored_rule" s_mirrored_rule [] []) : Has P w K mg base "mirrored_rule" [] 1 (spMirR K) := by
  refine has_of D sc_mirrored_rule (fun vs H Q E h => by obtain ⟨_, _, rfl, _⟩ := h; rfl) (fun _ _ _ _ _ _ us hl => match us, hl with | [_], _ => rfl) fun f cdv A outer s H vs Q E hr h => ?_
  obtain ⟨a, r, rfl, hS, q⟩ := h
  refine ⟨_, (pss_cons (ps_if (pt_cmpR op_eq (pe_ix ix_tup (pv 0) pe_int (fun _ _ => rfl)) pe_str (nomark _)) (pss_one (ps_ret (pv 0))) pss_nil)
      (pss_one (ps_ret (pe_tup (StX.pa_star (pe_slice sl_tupS (pv 0) po_none (po_some (pe_un un_neg pe_int))) (pa_cons (pe_ifExp (pt_cmpR op_eq (pe_ix ix_tup (pv 0) (pe_un un_neg pe_int) (fun _ _ => rfl)) pe_str (nomark _)) pe_str pe_str) pa_nil)))))), ?_⟩
  cases r with
  | drop n l =>
    refine ⟨_, rfl, a, _, 0, _, rfl, rfl, hS, rfl, rfl, _, rfl, ?_⟩
    refine ⟨_, rfl, _, rfl, _, rfl, a, _, rfl, hS, fun p H1 e1 hp => ⟨p, _, rfl, .inl hp, ?_⟩⟩
    rw [cutV_init]
    refine ⟨_, rfl, _, rfl, a, _, -1, _, rfl, rfl, sqT_ext e1 hS, rfl, rfl, _, rfl, ?_⟩
    cases l
    · exact ⟨sl2 (by show (3 : Nat) ≤ 5000; decide), fun p' np => q _ p' (e1.trans (same_upd np)) (.of upd_same)⟩
    · exact ⟨sl2 (by show (3 : Nat) ≤ 5000; decide), fun p' np => q _ p' (e1.trans (same_upd np)) (.of upd_same)⟩
  | half l =>
    refine ⟨_, rfl, a, _, 0, _, rfl, rfl, hS, rfl, rfl, _, rfl, ?_⟩
    refine ⟨_, rfl, _, rfl, _, rfl, a, _, rfl, hS, fun p H1 e1 hp => ⟨p, _, rfl, .inl hp, ?_⟩⟩
    rw [cutV_init]
    refine ⟨_, rfl, _, rfl, a, _, -1, _, rfl, rfl, sqT_ext e1 hS, rfl, rfl, _, rfl, ?_⟩
    cases l
    · exact ⟨sl2 (by show (2 : Nat) ≤ 5000; decide), fun p' np => q _ p' (e1.trans (same_upd np)) (.of upd_same)⟩
    · exact ⟨sl2 (by show (2 : Nat) ≤ 5000; decide), fun p' np => q _ p' (e1.trans (same_upd np)) (.of upd_same)⟩
  | empty => exact ⟨_, rfl, a, _, 0, _, rfl, rfl, hS, rfl, rfl, _, rfl, ⟨_, rfl, q _ a (.refl _) hS⟩⟩
  | lower l =>
    refine ⟨_, rfl, a, _, 0, _, rfl, rfl, hS, rfl, rfl, _, rfl, ?_⟩
    refine ⟨_, rfl, _, rfl, _, rfl, a, _, rfl, hS, fun p H1 e1 hp => ⟨p, _, rfl, .inl hp, ?_⟩⟩
    rw [cutV_init]
    refine ⟨_, rfl, _, rfl, a, _, -1, _, rfl, rfl, sqT_ext e1 hS, rfl, rfl, _, rfl, ?_⟩
    cases l
    · exact ⟨sl2 (by show (2 : Nat) ≤ 5000; decide), fun p' np => q _ p' (e1.trans (same_upd np)) (.of upd_same)⟩
    · exact ⟨sl2 (by show (2 : Nat) ≤ 5000; decide), fun p' np => q _ p' (e1.trans (same_upd np)) (.of upd_same)⟩
  | put c x l =>
    refine ⟨_, rfl, a, _, 0, _, rfl, rfl, hS, rfl, rfl, _, rfl, ?_⟩
    refine ⟨_, rfl, _, rfl, _, rfl, a, _, rfl, hS, fun p H1 e1 hp => ⟨p, _, rfl, .inl hp, ?_⟩⟩
    rw [cutV_init]
    refine ⟨_, rfl, _, rfl, a, _, -1, _, rfl, rfl, sqT_ext e1 hS, rfl, rfl, _, rfl, ?_⟩
    cases l
    · exact ⟨sl2 (by show (4 : Nat) ≤ 5000; decide), fun p' np => q _ p' (e1.trans (same_upd np)) (.of upd_same)⟩
    · exact ⟨sl2 (by show (4 : Nat) ≤ 5000; decide), fun p' np => q _ p' (e1.trans (same_upd np)) (.of upd_same)⟩
theorem h_mirrored (D : Def K mg "mirrored" s_mirrored [] []) (h_mirrored_rule : Has P w K mg base "mirrored_rule" [] 1 (spMirR K)) : Has P w K mg base "mirrored" [] 2 (spMir K) := by
  refine has_of D sc_mirrored (fun vs H Q E h => by obtain ⟨_, _, _, rfl, _⟩ := h; rfl) (fun _ _ _ _ _ _ us hl => match us, hl with | [_], _ => rfl) fun f cdv A outer s H vs Q E hr h => ?_
  obtain ⟨b, L, R, rfl, ⟨l, rr, hS, hlt, ⟨rs, hrs, hrA⟩⟩, hz, q⟩ := h
  have hrl : rs.length = R.length := by rw [dpA_len hrA, List.length_map]
  refine ⟨_, (pss_one (ps_ret (pe_tup (pa_cons (pe_ix ix_tup (pv 0) pe_int (fun _ _ => rfl)) (pa_cons (pe_tupleOf rfl B.tuple_ (pe_lc (own := [("rule", 1)]) rfl sc_mirrored.nd (pi_tup (pe_ix ix_tup (pv 0) pe_int (fun _ _ => rfl))) (blkOk_by (N := N_mirrored) (sc := defScope s_mirrored) (by decide +kernel)) (fun _ _ _ _ _ => (pg_name (i := 1) sc_mirrored.nd rfl (Or.inl rfl) (.inr rfl))) (fun _ _ _ _ _ => pts_nil) (fun _ _ _ _ _ => (pe_has h_mirrored_rule (hr.mono (by decide)) rfl (pa_cons (pv 1) pa_nil))))) pa_nil))))), ?_⟩
  refine ⟨_, rfl, b, _, 0, _, rfl, rfl, hS, rfl, ?_⟩
  refine ⟨_, rfl, b, _, 1, _, rfl, rfl, hS, rfl, rr, rfl, ⟨_, hrs⟩, fun Dk nD => ?_⟩
  refine lc_it (walk_tup (xs := rs)) (LcD K H Dk fun i => ((R.map mirR).take i).map dR) (.start nD rfl) (fun _ H2 _ p => sqT_ext p.1 hrs) (fun i x H2 H3 hi p y => ?_) fun H2 p => ?_
  · obtain ⟨rfl, g⟩ := y
    obtain ⟨rl, a1, hr1, rfl, k1, hm⟩ := dR_at hrA p.1 g
    refine ⟨rfl, _, rfl, a1, rl, rfl, k1, fun H4 p4 e4 h4 => ?_⟩
    refine p.add nD e4 (dp_ofRule h4) (map_take_succ dR (R.map mirR) (x := mirR rl) (by rw [List.getElem?_map, hr1]; rfl)) (noLA_of fun d hd => ?_) (noL_dR _) ?_
    · obtain ⟨c, _, rfl⟩ := List.mem_map.mp hd
      exact noL_dR c
    · rw [List.length_map, List.length_take, List.length_map]
      omega
  · obtain ⟨e2, vs, hv, hA⟩ := p
    refine .inl ⟨Dk, _, rfl, .of hv, fun p' np => ⟨two_ok, fun p'' np2 => q _ p'' ((e2.trans (same_upd np)).trans (same_upd np2)) ⟨l, p', .of upd_same, hlt.ext ((e2.trans (same_upd np)).trans (same_upd np2)), ?_⟩⟩⟩
    have hA' : DpAll K H2 vs ((R.map mirR).map dR) := by
      have : (R.map mirR).take rs.length = R.map mirR := List.take_of_length_le (by rw [List.length_map]; omega)
      rw [← this]
      exact hA
    exact ⟨vs, sqT_ext (same_upd np2) (.of upd_same), dpA_ext ((same_upd np).trans (same_upd np2)) _ _ hA'⟩
end
end Fk

set_option Elab.async false
set_option linter.all false
set_option maxRecDepth 100000
set_option maxHeartbeats 4000000
/-! Fk K5: results of rules, steps. -/
namespace Fk
open PySem PySem.Spec PyProof.Rows L2
theorem rgV_zero (n : Int) : rgV 0 n = (List.range n.toNat).map fun k => V.int (k : Nat) := by
  unfold rgV
  rw [Int.sub_zero]
  exact List.map_congr_left fun k _ => by rw [Int.zero_add]
def iv (k : Nat) : V := .int (k : Nat)
theorem plc_len (n : Nat) (l : Bool) : (plc n l).length = n := by cases l <;> simp [plc]
theorem plc_mem {n : Nat} {l : Bool} {k : Nat} (h : k ∈ plc n l) : k < n := by cases l <;> simpa [plc] using h
theorem lts_len (L : Lts) (hL : LOk L) {x : Wd} (hx : ∀ c ∈ x, c ∈ names L) : ∀ (ks : List Nat), (∀ k ∈ ks, k < x.length) → ((ks.flatMap fun k => (lsOf L (x.getD k 0)).map fun c => x.take k ++ ([c] ++ x.drop (k + 1)))).length ≤ 4 * ks.length
  | [], _ => by simp
  | k :: ks, h => by
    have ih := lts_len L hL hx ks fun y hy => h y (List.mem_cons_of_mem _ hy)
    rw [List.flatMap_cons, List.length_append, List.length_map, List.length_cons]
    have hk := h k List.mem_cons_self
    have := hL.lsLen (hx (x.getD k 0) (by rw [List.getD_eq_getElem?_getD, List.getElem?_eq_getElem hk]; exact List.getElem_mem hk))
    omega
theorem resOf_len {L : Lts} {x : Wd} {r : Rl} (hL : LOk L) (hx : WOk L x) (hr : ROk L r) : (resOf L x r).length ≤ 100 := by
  have hz := hx.2
  cases r with
  | drop n l =>
    show ((plc (x.length + 1 - n) l).map _).length ≤ 100
    rw [List.length_map, plc_len]
    omega
  | half l => exact Nat.le_trans (Nat.le_refl 1) (by decide)
  | empty => exact Nat.le_trans (Nat.le_refl 1) (by decide)
  | lower l =>
    have := lts_len L hL hx.1 (plc x.length l) fun k hk => plc_mem hk
    rw [plc_len] at this
    exact Nat.le_trans this (by omega)
  | put c w l =>
    show (((plc x.length l).filter _).map _).length ≤ 100
    rw [List.length_map]
    refine Nat.le_trans (List.length_filter_le ..) ?_
    rw [plc_len]
    omega
/-- an iterator's walk around any body -/
theorem ow_it {J : It} {n : Nat} {G : Hp → Prop} {Y : Nat → Hp → V → Hp → Prop} (w : Walk J n G Y) {Bd : (Hp → Prop) → V → Hp → Prop} {Qd : Hp → Prop} {H0 : Hp} (Pv : Nat → Hp → Prop) (h0 : Pv 0 H0) (hG : ∀ i H, i ≤ n → Pv i H → G H)
    (hs : ∀ i x H H', i < n → Pv i H → Y i H x H' → Bd (Pv (i + 1)) x H') (hd : ∀ H, Pv n H → Qd H) :
    ∃ W : Nat → Nat → Hp → Prop, (∃ m, W 0 m H0) ∧ ∀ i m H, W i m H → (J.stop i H ∧ Qd H) ∨ (J.go i H ∧ ∃ Nx : Hp → Prop, (∀ H', Nx H' → ∃ m', m' < m ∧ W (i + 1) m' H') ∧ ∀ x H', J.yld i H x H' → Bd Nx x H') := by
  refine ⟨fun i m H => m = n - i ∧ i ≤ n ∧ Pv i H, ⟨n, by simp, Nat.zero_le _, h0⟩, ?_⟩
  rintro i m H ⟨rfl, hi, p⟩
  have q := hG i H hi p
  by_cases hlt : i < n
  · exact .inr ⟨w.goes i H hlt q, Pv (i + 1), fun H' p' => ⟨n - (i + 1), by omega, rfl, hlt, p'⟩, fun x H' y => hs i x H H' hlt p (w.yields i H x H' hlt q y)⟩
  · have e : i = n := by omega
    subst e
    exact .inl ⟨w.stops H q, hd H p⟩
theorem fm_take {l : List Nat} {i k : Nat} (pr : Nat → Bool) (g : Nat → Wd) (m : Wd → V) (h : l[i]? = some k) : (((l.take (i + 1)).filter pr).map g).map m = (((l.take i).filter pr).map g).map m ++ (if pr k = true then [m (g k)] else []) := by
  rw [List.take_add_one, h, List.filter_append, List.map_append, List.map_append]
  congr 1
  show ((List.filter pr [k]).map g).map m = _
  by_cases hk : pr k = true
  · rw [List.filter_cons_of_pos hk, if_pos hk]
    rfl
  · rw [List.filter_cons_of_neg hk, if_neg hk]
    rfl
def lowK (L : Lts) (x : Wd) (k : Nat) : List Wd := (lsOf L (x.getD k 0)).map fun c => x.take k ++ ([c] ++ x.drop (k + 1))
/-- the keys of the dict found -/
def kx (acc : List Wd) : List (Key × V) := acc.map fun y => (Sum.inr (tx y), V.bl true)
theorem kx_put {acc : List Wd} {y : Wd} : putK (kx acc) (Sum.inr (tx y)) (V.bl true) = kx (if y ∈ acc then acc else acc ++ [y]) := by
  have hany : ((kx acc).any fun kv => decide (kv.1 = Sum.inr (tx y))) = decide (y ∈ acc) := by
    induction acc with
    | nil => simp [kx]
    | cons z acc ih =>
      unfold kx at ih ⊢
      rw [List.map_cons, List.any_cons, ih]
      by_cases h : y = z
      · subst h
        simp
      · have : ¬ (tx z = tx y) := fun w => h (tx_inj w).symm
        simp [this, h]
  unfold putK
  rw [hany]
  by_cases h : y ∈ acc
  · rw [if_pos (decide_eq_true h), if_pos h]
    unfold kx
    rw [List.map_map]
    refine List.map_congr_left fun z _ => ?_
    show (if Sum.inr (tx z) = (Sum.inr (tx y) : Key) then _ else _) = _
    split <;> rfl
  · rw [if_neg (fun w => h (of_decide_eq_true w)), if_neg h]
    unfold kx
    rw [List.map_append]
    rfl
theorem addNew_snoc (acc l : List Wd) (y : Wd) : addNew acc (l ++ [y]) = if y ∈ addNew acc l then addNew acc l else addNew acc l ++ [y] := by
  rw [addNew_app]
  rfl
theorem addNew_len : ∀ (acc l : List Wd), (addNew acc l).length ≤ acc.length + l.length
  | acc, [] => Nat.le_refl _
  | acc, y :: l => by
    show (if y ∈ acc then addNew acc l else addNew (acc ++ [y]) l).length ≤ _
    split
    · have := addNew_len acc l
      rw [List.length_cons]
      omega
    · have := addNew_len (acc ++ [y]) l
      rw [List.length_append] at this
      rw [List.length_cons]
      simp at this
      omega
theorem flatMap_len {α β : Type} (f : α → List β) (n : Nat) : ∀ (l : List α), (∀ x ∈ l, (f x).length ≤ n) → (l.flatMap f).length ≤ n * l.length
  | [], _ => by simp
  | x :: l, h => by
    have h1 := flatMap_len f n l fun y hy => h y (List.mem_cons_of_mem _ hy)
    have h2 := h x List.mem_cons_self
    rw [List.flatMap_cons, List.length_append, List.length_cons, Nat.mul_succ]
    omega
def spPlaces : Sp := fun vs H Q _ => ∃ (n : Int) (l : Bool), vs = [.int n, .str (sd l)] ∧ -1000 ≤ n ∧ n ≤ 1000 ∧ ∀ H' p, Same H H' → H' p = some (.lst ((plc n.toNat l).map iv)) → Q (.ref p) H'
def spResults (K : PySem.W.Frag) : Sp := fun vs H Q _ => ∃ (d a : Addr) (L : Lts) (r : Rl) (x : Wd), vs = [.ref d, .ref a, wv x] ∧ DictL K H d L ∧ LOk L ∧ SqT K H a (rV r) ∧ ROk L r ∧ WOk L x ∧
  ∀ H' p, Same H H' → H' p = some (.lst ((resOf L x r).map wv)) → Q (.ref p) H'
def spSteps (K : PySem.W.Frag) : Sp := fun vs H Q _ => ∃ (d rs : Addr) (L : Lts) (R : List Rl) (x : Wd), vs = [.ref d, .ref rs, wv x] ∧ DictL K H d L ∧ LOk L ∧ RsAt K H rs R ∧ (∀ r ∈ R, ROk L r) ∧ R.length ≤ 100 ∧ WOk L x ∧
  ∀ H' p, Same H H' → SqT K H' p ((stp L R x).map wv) → Q (.ref p) H'
section
variable {P : Program} {w : World} {K : PySem.W.Frag} {mg : Str → Option Value} {base : Heap} (B : Bt K mg)
include B
theorem h_places_of (D : Def K mg "places_of" s_places_of [] []) : Has P w K mg base "places_of" [] 1 spPlaces := by
  refine has_of D sc_places_of (fun vs H Q E h => by obtain ⟨_, _, rfl, _⟩ := h; rfl) (fun _ _ _ _ _ _ us hl => match us, hl with | [_, _], _ => rfl) fun f cdv A outer s H vs Q E hr h => ?_
  obtain ⟨n, l, rfl, hn0, hn, q⟩ := h
  refine ⟨_, (pss_cons (ps_set (i := 2) sc_places_of.nd rfl (Or.inl rfl) (pe_listRg rfl rfl B.list_ (prg_1 rfl B.range_ (pv 0))))
      (pss_one (ps_ret (pe_ifExp (pt_cmpR op_eq (pv 1) pe_str (nomark _)) (pv 2) (pe_revL (pv 2)))))), ?_⟩
  refine ⟨_, rfl, n, rfl, ?_, fun p np => ?_⟩
  · exact ⟨by omega, by omega, by omega, by omega, by omega⟩
  · rw [rgV_zero]
    refine ⟨_, rfl, rfl, _, rfl, ?_⟩
    cases l
    · refine ⟨_, rfl, p, _, rfl, .of upd_same, fun p2 np2 => q _ p2 ((same_upd np).trans (same_upd np2)) ?_⟩
      rw [upd_same]
      simp [plc, iv]
    · refine ⟨_, rfl, q _ p (same_upd np) ?_⟩
      rw [upd_same]
      rfl
theorem h_results_of (D : Def K mg "results_of" s_results_of [] []) (h_places_of : Has P w K mg base "places_of" [] 1 spPlaces) : Has P w K mg base "results_of" [] 2 (spResults K) := by
  refine has_of D sc_results_of (fun vs H Q E h => by obtain ⟨_, _, _, _, _, rfl, _⟩ := h; rfl) (fun _ _ _ _ _ _ us hl => match us, hl with | [_, _, _], _ => rfl) fun f cdv A outer s H vs Q E hr h => ?_
  obtain ⟨d, a, L, r, x, rfl, ⟨kvs, hd, hk⟩, hL, hS, hok, hx, q⟩ := h
  have hu := hu_of hr
  have hz : (tx x).length ≤ sizeLine := sl2 (by rw [tx_len]; have := hx.2; omega)
  have hx2 := hx.2
  have hrl := resOf_len hL hx hok
  refine ⟨_, (pss_cons (ps_if (pt_cmpR op_eq (pe_ix ix_tup (pv 1) pe_int (fun _ _ => rfl)) pe_str (nomark _)) (pss_cons (ps_set (i := 3) sc_results_of.nd rfl (Or.inr rfl) (pe_ix ix_tup (pv 1) pe_int (fun _ _ => rfl)))
      (pss_one (ps_ret (pe_lc (own := [("k", 9)]) rfl sc_results_of.nd (pi_list (pe_has h_places_of (hr.mono (by decide)) rfl (pa_cons (pe_op op_add (pe_op op_sub (pe_callB call_len_str rfl B.len_ (by decide +kernel) (pa_cons (pv 2) pa_nil)) (pv 3)) pe_int) (pa_cons (pe_ix ix_tup (pv 1) pe_int (fun _ _ => rfl)) pa_nil)))) (blkOk_by (N := N_results_of) (sc := defScope s_results_of) (by decide +kernel)) (fun _ _ _ _ _ => (pg_name (i := 9) sc_results_of.nd rfl (Or.inl rfl) (.inr rfl))) (fun _ _ _ _ _ => pts_nil) (fun _ _ _ _ _ => (pe_op op_add_str (pe_slice sl_str (pv 2) po_none (po_some (pv 9))) (pe_slice sl_str (pv 2) (po_some (pe_op op_add (pv 9) (pv 3))) po_none))))))) pss_nil)
      (pss_cons (ps_if (pt_cmpR op_eq (pe_ix ix_tup (pv 1) pe_int (fun _ _ => rfl)) pe_str (nomark _)) (pss_cons (ps_set (i := 4) sc_results_of.nd rfl (Or.inl rfl) (pe_op op_fdiv (pe_callB call_len_str rfl B.len_ (by decide +kernel) (pa_cons (pv 2) pa_nil)) pe_int))
      (pss_one (ps_ret (pe_lst (pa_cons (pe_ifExp (pt_cmpR op_eq (pe_ix ix_tup (pv 1) pe_int (fun _ _ => rfl)) pe_str (nomark _)) (pe_slice sl_str (pv 2) po_none (po_some (pv 4))) (pe_slice sl_str (pv 2) (po_some (pe_op op_sub (pe_callB call_len_str rfl B.len_ (by decide +kernel) (pa_cons (pv 2) pa_nil)) (pv 4))) po_none)) pa_nil))))) pss_nil)
      (pss_cons (ps_if (pt_cmpR op_eq (pe_ix ix_tup (pv 1) pe_int (fun _ _ => rfl)) pe_str (nomark _)) (pss_one (ps_ret (pe_lst (pa_cons pe_str pa_nil)))) pss_nil)
      (pss_cons (ps_if (pt_cmpR op_eq (pe_ix ix_tup (pv 1) pe_int (fun _ _ => rfl)) pe_str (nomark _)) (pss_cons (ps_set (i := 5) sc_results_of.nd rfl (Or.inl rfl) (pe_has h_places_of (hr.mono (by decide)) rfl (pa_cons (pe_callB call_len_str rfl B.len_ (by decide +kernel) (pa_cons (pv 2) pa_nil)) (pa_cons (pe_ix ix_tup (pv 1) pe_int (fun _ _ => rfl)) pa_nil))))
      (pss_one (ps_ret (pe_lc2 (own := [("k", 9), ("less", 10)]) (vs1 := [10]) rfl sc_results_of.nd (pi_list (pv 5)) (blkOk_by (N := N_results_of) (sc := defScope s_results_of) (by decide +kernel)) (by decide) (fun _ _ _ _ _ => (pg_name (i := 9) sc_results_of.nd rfl (Or.inl rfl) (.inr rfl))) (fun _ _ _ _ _ => pts_nil) (fun _ _ _ _ _ => (pi_tupK K rfl (pe_dget hu (pv 0) (pe_ix ix_str (pv 2) (pv 9) (fun _ _ => rfl)) (fun _ _ => rfl)))) (fun _ _ _ _ _ => (pg_name (i := 10) sc_results_of.nd rfl (Or.inl rfl) (.inr rfl))) (fun _ _ _ _ _ => pts_nil) (fun _ _ _ _ _ => (pe_op op_add_str (pe_op op_add_str (pe_slice sl_str (pv 2) po_none (po_some (pv 9))) (pv 10)) (pe_slice sl_str (pv 2) (po_some (pe_op op_add (pv 9) pe_int)) po_none))))))) pss_nil)
      (pss_cons (ps_asg (pe_slice sl_tupS (pv 1) (po_some pe_int) po_none) (pg_tup rfl (pgs_cons (pg_name (i := 6) sc_results_of.nd rfl (Or.inr rfl)) (pgs_cons (pg_name (i := 7) sc_results_of.nd rfl (Or.inr rfl)) (pgs_cons (pg_name (i := 8) sc_results_of.nd rfl (Or.inl rfl)) pgs_nil)))))
      (pss_one (ps_ret (pe_lc (own := [("k", 9)]) rfl sc_results_of.nd (pi_list (pe_has h_places_of (hr.mono (by decide)) rfl (pa_cons (pe_callB call_len_str rfl B.len_ (by decide +kernel) (pa_cons (pv 2) pa_nil)) (pa_cons (pv 8) pa_nil)))) (blkOk_by (N := N_results_of) (sc := defScope s_results_of) (by decide +kernel)) (fun _ _ _ _ _ => (pg_name (i := 9) sc_results_of.nd rfl (Or.inl rfl) (.inr rfl))) (fun _ _ _ _ _ => (pts_one (pt_cmpR op_eq (pe_ix ix_str (pv 2) (pv 9) (fun _ _ => rfl)) (pv 6) (nomark _)))) (fun _ _ _ _ _ => (pe_op op_add_str (pe_op op_add_str (pe_slice sl_str (pv 2) po_none (po_some (pv 9))) (pv 7)) (pe_slice sl_str (pv 2) (po_some (pe_op op_add (pv 9) pe_int)) po_none))))))))))), ?_⟩
  cases r with
  | drop n l =>
    refine ⟨_, rfl, a, _, 0, _, rfl, rfl, hS, rfl, rfl, _, rfl, ?_⟩
    refine ⟨_, rfl, a, _, 1, _, rfl, rfl, hS, rfl, ?_⟩
    obtain ⟨n1, n2⟩ := hok
    have hm : (((tx x).length : Int) - (n : Nat) + 1).toNat = x.length + 1 - n := by rw [tx_len]; omega
    refine ⟨_, rfl, _, rfl, hz, _, rfl, _, _, rfl, rfl, _, _, rfl, rfl, _, rfl, a, _, 2, _, rfl, rfl, hS, rfl, _, l, rfl, by rw [tx_len]; omega, by rw [tx_len]; omega, fun H1 p e1 hp => ?_⟩
    rw [hm] at hp
    refine ⟨p, rfl, ⟨_, .of hp⟩, fun Dk nD => ?_⟩
    refine lc_it (walk_list (xs := (plc (x.length + 1 - n) l).map iv)) (LcP H1 Dk fun i => ((resOf L x (.drop n l)).take i).map wv) (.start nD rfl) (fun _ H2 _ p' => .of (p'.1 _ _ hp)) (fun i v H2 H3 hi p' y => ?_) fun H2 p' => ?_
    · obtain ⟨rfl, g⟩ := y
      rw [List.getElem?_map] at g
      obtain ⟨k, gk, rfl⟩ := Option.map_eq_some_iff.mp g
      have hkl := plc_mem (List.mem_of_getElem? gk)
      refine ⟨rfl, _, rfl, _, rfl, _, rfl, _, rfl, hz, _, rfl, _, rfl, _, rfl, _, _, rfl, rfl, _, rfl, _, rfl, hz, ?_⟩
      rw [cutS_to, show (some ((k : Int) + (n : Int)) : Option Int) = some (((k + n : Nat)) : Int) by rw [Int.natCast_add], cutS_from]
      refine ⟨_, _, rfl, rfl, sl2 (by rw [tx_len, tx_len, List.length_take, List.length_drop]; omega), ?_⟩
      rw [tx_app]
      refine p'.add nD (.refl _) (map_take_succ wv (resOf L x (.drop n l)) (x := x.take k ++ x.drop (k + n)) ?_) ?_
      · show ((plc (x.length + 1 - n) l).map _)[i]? = _
        rw [List.getElem?_map, gk]
        rfl
      · rw [List.length_map, List.length_take]
        omega
    · refine q _ Dk (e1.trans p'.1) ?_
      rw [p'.2]
      show some (HO.lst (((resOf L x (.drop n l)).take ((plc (x.length + 1 - n) l).map iv).length).map wv)) = _
      rw [List.take_of_length_le]
      show ((plc (x.length + 1 - n) l).map _).length ≤ _
      rw [List.length_map, List.length_map]
      omega
  | half l =>
    have hm : ((tx x).length : Int) / 2 = ((x.length / 2 : Nat) : Int) := by rw [tx_len]; omega
    refine ⟨_, rfl, a, _, 0, _, rfl, rfl, hS, rfl, rfl, _, rfl, ?_⟩
    refine ⟨_, rfl, a, _, 0, _, rfl, rfl, hS, rfl, rfl, _, rfl, ?_⟩
    refine ⟨_, rfl, _, rfl, hz, _, _, rfl, rfl, ⟨by decide, by decide⟩, ?_⟩
    refine ⟨_, rfl, a, _, 1, _, rfl, rfl, hS, rfl, rfl, _, rfl, ?_⟩
    cases l
    · refine ⟨_, rfl, _, rfl, _, rfl, hz, _, rfl, _, _, rfl, rfl, _, rfl, _, rfl, hz, ?_⟩
      rw [show (some (((tx x).length : Int) - ((tx x).length : Int) / 2) : Option Int) = some (((x.length - x.length / 2 : Nat)) : Int) by rw [hm, tx_len]; congr 1; omega, cutS_from]
      refine ⟨sl2 (by show (1 : Nat) ≤ 5000; decide), fun p np => q _ p (same_upd np) ?_⟩
      rw [upd_same]
      rfl
    · refine ⟨_, rfl, _, rfl, _, rfl, _, rfl, hz, ?_⟩
      rw [hm, cutS_to]
      refine ⟨sl2 (by show (1 : Nat) ≤ 5000; decide), fun p np => q _ p (same_upd np) ?_⟩
      rw [upd_same]
      rfl
  | empty =>
    refine ⟨_, rfl, a, _, 0, _, rfl, rfl, hS, rfl, rfl, _, rfl, ?_⟩
    refine ⟨_, rfl, a, _, 0, _, rfl, rfl, hS, rfl, rfl, _, rfl, ?_⟩
    refine ⟨_, rfl, a, _, 0, _, rfl, rfl, hS, rfl, rfl, _, rfl, ?_⟩
    refine ⟨sl2 (by show (1 : Nat) ≤ 5000; decide), fun p np => q _ p (same_upd np) ?_⟩
    rw [upd_same]
    rfl
  | lower l =>
    refine ⟨_, rfl, a, _, 0, _, rfl, rfl, hS, rfl, rfl, _, rfl, ?_⟩
    refine ⟨_, rfl, a, _, 0, _, rfl, rfl, hS, rfl, rfl, _, rfl, ?_⟩
    refine ⟨_, rfl, a, _, 0, _, rfl, rfl, hS, rfl, rfl, _, rfl, ?_⟩
    refine ⟨_, rfl, a, _, 0, _, rfl, rfl, hS, rfl, rfl, _, rfl, ?_⟩
    have hm : (((tx x).length : Nat) : Int).toNat = x.length := by rw [tx_len]; omega
    refine ⟨_, rfl, _, rfl, hz, _, rfl, a, _, 1, _, rfl, rfl, hS, rfl, _, l, rfl, by omega, by rw [tx_len]; omega, fun H1 p e1 hp => ?_⟩
    rw [hm] at hp
    refine ⟨_, rfl, p, rfl, ⟨_, .of hp⟩, fun Dk nD => ?_⟩
    refine ow_it (walk_list (xs := (plc x.length l).map iv)) (LcP H1 Dk fun i => (((plc x.length l).take i).flatMap (lowK L x)).map wv) (.start nD rfl) (fun _ H2 _ p' => .of (p'.1 _ _ hp)) (fun i v H2 H3 hi p' y => ?_) fun H2 p' => ?_
    · obtain ⟨rfl, g⟩ := y
      rw [List.getElem?_map] at g
      obtain ⟨k, gk, rfl⟩ := Option.map_eq_some_iff.mp g
      have hkl := plc_mem (List.mem_of_getElem? gk)
      have hxk : x[k]? = some (x.getD k 0) := by rw [List.getD_eq_getElem?_getD, List.getElem?_eq_getElem hkl]; rfl
      have hcn : x.getD k 0 ∈ names L := hx.1 _ (List.mem_of_getElem? hxk)
      obtain ⟨b, g3, g4⟩ := (hk.ext e1).find hcn hL.nd
      have hl4 := hL.lsLen hcn
      have hil : i < x.length := by rw [List.length_map, plc_len] at hi; exact hi
      have hprev := lts_len L hL hx.1 ((plc x.length l).take i) fun y hy => plc_mem (List.mem_of_mem_take hy)
      rw [List.length_take, plc_len] at hprev
      refine ⟨rfl, _, rfl, _, rfl, _, rfl, _, _, _, rfl, rfl, hz, atI_nat (by rw [tx_cps]; exact hxk), d, _, rfl, dgetL ((e1.trans p'.1) _ _ hd) g3, b, rfl, ⟨_, sqT_ext p'.1 g4⟩, ?_⟩
      refine ow_it (walk_tup (xs := (lsOf L (x.getD k 0)).map lv)) (LcP H1 Dk fun j => ((((plc x.length l).take i).flatMap (lowK L x)) ++ ((lowK L x k).take j)).map wv) ⟨p'.1, ?_⟩ (fun _ H4 _ p2 => sqT_ext p2.1 g4) (fun j v H4 H5 hj p2 y2 => ?_) fun H4 p2 => ?_
      · rw [p'.2]
        show some (HO.lst _) = some (HO.lst ((_ ++ (lowK L x k).take 0).map wv))
        rw [List.take_zero, List.append_nil]
      · obtain ⟨rfl, gj⟩ := y2
        rw [List.getElem?_map] at gj
        obtain ⟨c, gc, rfl⟩ := Option.map_eq_some_iff.mp gj
        refine ⟨rfl, _, rfl, _, rfl, _, rfl, _, rfl, hz, ?_⟩
        rw [cutS_to]
        refine ⟨_, rfl, _, _, rfl, rfl, sl2 (by rw [tx_len, tx_len, List.length_take]; simp; omega), ?_⟩
        refine ⟨_, rfl, _, rfl, _, _, rfl, rfl, _, rfl, _, rfl, hz, ?_⟩
        rw [show (some ((k : Int) + 1) : Option Int) = some (((k + 1 : Nat)) : Int) by rw [Int.natCast_add]; rfl, cutS_from, tx_app]
        refine ⟨_, _, rfl, rfl, sl2 (by rw [tx_len, tx_len, List.length_drop, List.length_append, List.length_take]; simp; omega), ?_⟩
        rw [tx_app, List.append_assoc]
        refine p2.add nD (.refl _) ?_ ?_
        · rw [List.map_append, List.map_append, List.append_assoc, map_take_succ wv (lowK L x k) (x := x.take k ++ ([c] ++ x.drop (k + 1))) (by
            unfold lowK
            rw [List.getElem?_map, gc]
            rfl)]
          rfl
        · have : ((((plc x.length l).take i).flatMap (lowK L x))).length ≤ 4 * min i x.length := hprev
          have h5 : (lowK L x k).length ≤ 4 := by
            unfold lowK
            rw [List.length_map]
            exact hl4
          rw [List.length_map, List.length_append, List.length_take]
          omega
      · refine ⟨p2.1, ?_⟩
        rw [p2.2]
        show some (HO.lst ((_ ++ (lowK L x k).take ((lsOf L (x.getD k 0)).map lv).length).map wv)) = some (HO.lst ((((plc x.length l).take (i + 1)).flatMap (lowK L x)).map wv))
        rw [show (lowK L x k).take ((lsOf L (x.getD k 0)).map lv).length = lowK L x k from List.take_of_length_le (by unfold lowK; rw [List.length_map, List.length_map]; exact Nat.le_refl _), List.take_add_one, gk, List.flatMap_append]
        simp
    · refine q _ Dk (e1.trans p'.1) ?_
      rw [p'.2]
      show some (HO.lst (List.map wv (((plc x.length l).take ((plc x.length l).map iv).length).flatMap (lowK L x)))) = _
      rw [List.length_map, List.take_length]
      rfl
  | put c y l =>
    obtain ⟨hc, ⟨hy1, hy2⟩, hy3⟩ := hok
    refine ⟨_, rfl, a, _, 0, _, rfl, rfl, hS, rfl, rfl, _, rfl, ?_⟩
    refine ⟨_, rfl, a, _, 0, _, rfl, rfl, hS, rfl, rfl, _, rfl, ?_⟩
    refine ⟨_, rfl, a, _, 0, _, rfl, rfl, hS, rfl, rfl, _, rfl, ?_⟩
    refine ⟨_, rfl, a, _, 0, _, rfl, rfl, hS, rfl, rfl, _, rfl, ?_⟩
    refine ⟨_, rfl, _, rfl, a, _, rfl, hS, fun p0 H0 e0 h0 => ?_⟩
    rw [show (some 1 : Option Int) = some ((1 : Nat) : Int) from rfl, cutV_from] at h0
    refine ⟨p0, _, rfl, h0, rfl, _, _, rfl, _, _, rfl, _, _, rfl, rfl, ?_⟩
    have hm : (((tx x).length : Nat) : Int).toNat = x.length := by rw [tx_len]; omega
    refine ⟨_, rfl, _, rfl, hz, _, rfl, _, l, rfl, by omega, by rw [tx_len]; omega, fun H1 p e1 hp => ?_⟩
    rw [hm] at hp
    refine ⟨p, rfl, ⟨_, .of hp⟩, fun Dk nD => ?_⟩
    refine lc_it (walk_list (xs := (plc x.length l).map iv)) (LcP H1 Dk fun i => ((((plc x.length l).take i).filter fun k => x.getD k 0 == c).map fun k => x.take k ++ (y ++ x.drop (k + 1))).map wv) (.start nD rfl) (fun _ H2 _ p' => .of (p'.1 _ _ hp)) (fun i v H2 H3 hi p' yy => ?_) fun H2 p' => ?_
    · obtain ⟨rfl, g⟩ := yy
      rw [List.getElem?_map] at g
      obtain ⟨k, gk, rfl⟩ := Option.map_eq_some_iff.mp g
      have hkl := plc_mem (List.mem_of_getElem? gk)
      have hxk : x[k]? = some (x.getD k 0) := by rw [List.getD_eq_getElem?_getD, List.getElem?_eq_getElem hkl]; rfl
      refine ⟨rfl, _, rfl, _, rfl, _, _, _, rfl, rfl, hz, atI_nat (by rw [tx_cps]; exact hxk), _, rfl, rfl, _, rfl, ?_⟩
      by_cases he : x.getD k 0 = c
      · refine iteD (by rw [he]; rfl) ?_
        refine ⟨_, rfl, _, rfl, _, rfl, _, rfl, hz, ?_⟩
        rw [cutS_to]
        refine ⟨_, rfl, _, _, rfl, rfl, sl2 (by show (tx (x.take k)).length + (tx y).length ≤ 5000; rw [tx_len, tx_len, List.length_take]; omega), ?_⟩
        refine ⟨_, rfl, _, rfl, _, _, rfl, rfl, _, rfl, _, rfl, hz, ?_⟩
        rw [show (some ((k : Int) + 1) : Option Int) = some (((k + 1 : Nat)) : Int) by rw [Int.natCast_add]; rfl, cutS_from, tx_app]
        refine ⟨_, _, rfl, rfl, sl2 (by rw [tx_len, tx_len, List.length_drop, List.length_append, List.length_take]; omega), ?_⟩
        rw [tx_app, List.append_assoc]
        refine p'.add nD (.refl _) ?_ ?_
        · show ((((plc x.length l).take (i + 1)).filter fun k => x.getD k 0 == c).map fun k => x.take k ++ (y ++ x.drop (k + 1))).map wv = _
          rw [fm_take _ _ _ gk, if_pos (by simpa using he)]
          rfl
        · rw [List.length_map, List.length_map]
          have := List.length_filter_le (fun k => x.getD k 0 == c) ((plc x.length l).take i)
          rw [List.length_take, plc_len] at this
          omega
      · refine iteDN (fun z => he (List.cons.inj (tx_inj (V.str.inj z))).1) ?_
        refine p'.skip (.refl _) ?_
        show ((((plc x.length l).take (i + 1)).filter fun k => x.getD k 0 == c).map fun k => x.take k ++ (y ++ x.drop (k + 1))).map wv = _
        rw [fm_take _ _ _ gk, if_neg (by simpa using he), List.append_nil]
    · refine q _ Dk ((e0.trans e1).trans p'.1) ?_
      rw [p'.2]
      show some (HO.lst (List.map wv ((((plc x.length l).take ((plc x.length l).map iv).length).filter _).map _))) = _
      rw [List.length_map, List.take_length]
      rfl
theorem h_steps_by (D : Def K mg "steps_by" s_steps_by [] []) (h_results_of : Has P w K mg base "results_of" [] 2 (spResults K)) : Has P w K mg base "steps_by" [] 3 (spSteps K) := by
  refine has_of D sc_steps_by (fun vs H Q E h => by obtain ⟨_, _, _, _, _, rfl, _⟩ := h; rfl) (fun _ _ _ _ _ _ us hl => match us, hl with | [_, _, _], _ => rfl) fun f cdv A outer s H vs Q E hr h => ?_
  obtain ⟨d, rs, L, R, x, rfl, hdL, hL, ⟨vr, hrs, hrA⟩, hok, hR, hx, q⟩ := h
  have hu := hu_of hr
  have hrl : vr.length = R.length := by rw [dpA_len hrA, List.length_map]
  refine ⟨_, (pss_cons (ps_set (i := 3) sc_steps_by.nd rfl (Or.inl rfl) (pe_disp (pps_cons (pv 2) pe_bl pps_nil) (by rfl) (by rfl) (fun z => by cases z) (by decide)))
      (pss_cons (ps_for PassesOwn.never rfl (pi_tup (pv 1)) (pg_name (i := 4) sc_steps_by.nd rfl (Or.inl rfl)) (pss_one (ps_for PassesOwn.never rfl (pi_list (pe_has h_results_of (hr.mono (by decide)) rfl (pa_cons (pv 0) (pa_cons (pv 4) (pa_cons (pv 2) pa_nil))))) (pg_name (i := 5) sc_steps_by.nd rfl (Or.inl rfl)) (pss_one (ps_dput hu (pv 3) (pv 5) pe_bl rfl)))))
      (pss_one (ps_ret (pe_tupleOf rfl B.tuple_ (pe_slice sl_list (pe_callTy (call_list_dK rfl) rfl B.list_ (by decide +kernel) (pa_cons (pv 3) pa_nil)) (po_some pe_int) po_none)))))), ?_⟩
  intro Df nD
  refine ⟨_, rfl, ?_⟩
  refine ⟨upd_same, [(Sum.inr (tx x), .bl true)], rfl, (by show (1 : Nat) ≤ 15; decide), ?_⟩
  have s1 : Same H (upd (upd H Df (.dK [])) Df (.dK (mergeK [] [(Sum.inr (tx x), V.bl true)]))) := same_put (same_upd nD) nD
  refine ⟨_, rfl, rs, rfl, ⟨_, sqT_ext s1 hrs⟩, ?_⟩
  refine for_it (walk_tup (xs := vr)) (fun i σ H2 => Same H H2 ∧ H2 Df = some (.dK (kx (addNew [x] ((R.take i).flatMap (resOf L x))))) ∧ ∃ u1 u2, σ = [some (.ref d), some (.ref rs), some (wv x), some (.ref Df), u1, u2]) ⟨s1, upd_same, _, _, rfl⟩ (fun _ _ _ _ p => sqT_ext p.1 hrs) (fun i v σ H2 H3 hi p y => ?_) fun σ H2 p => ?_
  · obtain ⟨e2, hD, u1, u2, rfl⟩ := p
    obtain ⟨rfl, g⟩ := y
    obtain ⟨r, a, hr1, rfl, ha, hm⟩ := dR_at hrA e2 g
    refine ⟨_, rfl, _, rfl, _, rfl, d, a, L, r, x, rfl, hdL.ext e2, hL, ha, hok r hm, hx, fun H4 p e4 hp => ?_⟩
    refine ⟨p, rfl, ⟨_, .of hp⟩, ?_⟩
    have hrl' := resOf_len hL hx (hok r hm)
    have hpD : p ≠ Df := ne_of hp (e4 _ _ hD) (by intro z; cases z)
    refine for_it (walk_list (xs := (resOf L x r).map wv)) (fun j σ H5 => Same H H5 ∧ H5 p = some (.lst ((resOf L x r).map wv)) ∧ H5 Df = some (.dK (kx (addNew [x] ((R.take i).flatMap (resOf L x) ++ (resOf L x r).take j)))) ∧ ∃ u1 u2, σ = [some (.ref d), some (.ref rs), some (wv x), some (.ref Df), u1, u2])
      ⟨e2.trans e4, hp, by rw [List.take_zero, List.append_nil]; exact e4 _ _ hD, _, _, rfl⟩ (fun _ _ _ _ p' => .of p'.2.1) (fun j v σ H5 H6 hj p' y => ?_) fun σ H5 p' => ?_
    · obtain ⟨e5, hp5, hD5, u1, u2, rfl⟩ := p'
      obtain ⟨rfl, g⟩ := y
      rw [List.getElem?_map] at g
      obtain ⟨z, gz, rfl⟩ := Option.map_eq_some_iff.mp g
      refine ⟨_, rfl, _, rfl, Df, _, rfl, DPut.k (k := Sum.inr (tx z)) hD5 ?_, same_put e5 nD, by rw [upd_ne hpD]; exact hp5, ?_, _, _, rfl⟩
      · unfold kx
        rw [List.length_map]
        have h1 := addNew_len [x] ((R.take i).flatMap (resOf L x) ++ (resOf L x r).take j)
        have h2 : ((R.take i).flatMap (resOf L x)).length ≤ 100 * (R.take i).length := flatMap_len _ _ _ fun r' hr' => resOf_len hL hx (hok r' (List.mem_of_mem_take hr'))
        rw [List.length_append, List.length_take] at h1
        rw [List.length_take] at h2
        have h3 : ([x] : List Wd).length = 1 := rfl
        rw [sizeLine_eq]
        omega
      · rw [upd_same, kx_put, List.take_add_one, gz, ← List.append_assoc, show (some z).toList = [z] from rfl, addNew_snoc]
    · obtain ⟨e5, hp5, hD5, u1, u2, rfl⟩ := p'
      refine ⟨e5, ?_, _, _, rfl⟩
      rw [hD5, List.length_map, List.take_length, List.take_add_one, hr1, List.flatMap_append]
      simp
  · obtain ⟨e2, hD, u1, u2, rfl⟩ := p
    have hall : (R.take vr.length).flatMap (resOf L x) = allRes L R x := by
      unfold allRes
      rw [hrl, List.take_length]
    rw [hall] at hD
    refine ⟨_, rfl, Df, _, rfl, hD, fun p1 np1 => ?_⟩
    refine ⟨_, rfl, p1, _, rfl, .of upd_same, fun p2 np2 => ?_⟩
    rw [show (some 1 : Option Int) = some ((1 : Nat) : Int) from rfl, cutV_from]
    refine .inl ⟨p2, _, rfl, .of upd_same, fun p3 np3 => q _ p3 ?_ (.of ?_)⟩
    · exact ((e2.trans (same_upd np1)).trans (same_upd np2)).trans (same_upd np3)
    · rw [upd_same]
      unfold stp kx
      rw [List.map_map, ← List.map_drop]
      rfl
end
end Fk

set_option Elab.async false
set_option linter.all false
set_option maxRecDepth 100000
set_option maxHeartbeats 4000000
/-! Fk K6: the class Book; what lies below. -/
namespace Fk
open PySem PySem.Spec PyProof.Rows L2
theorem FnOk.toR {P : Program} {w : World} {K : PySem.W.Frag} {mg : Str → Option Value} {base : Heap} {k : Nat} {f : Addr} {fd : FuncData} {ps : List Str} {sp : Sp} (F : FnOk P w K mg base CX0 k f fd ps sp) (hb : Binds K fd ps []) : FnR P w K mg base CX0 k f sp := by
  intro A outer s H us vs Q E hr e0 r h
  have el : (us ++ ([] : List Value)).length = ps.length := by
    rw [List.append_nil, ← r.length, F.len _ _ _ _ h]
  have bd := hb s us (e0.mod.kin.keeps fun b o e => (e0.bs b o e).1) el
  rw [List.append_nil] at bd
  exact F.run A outer s H ⟨us, []⟩ us vs Q E hr e0 bd r h
def bkF (l r : Addr) : List (Str × V) := [("held_letters", .ref l), ("held_rules", .ref r)]
def spInit (K : PySem.W.Frag) (C : Addr) : Sp := fun vs H Q _ => ∃ (p l r dx : Addr) (L : Lts) (R : List Rl), vs = [.ref p, .ref l, .ref r] ∧ H p = some (.ins C dx []) ∧ LtAt K H l L ∧ RsAt K H r R ∧ BOk L R ∧
  ∀ H', SameBut p H H' → H' p = some (.ins C dx (bkF l r)) → Q .non H'
def spBcall (K : PySem.W.Frag) (C : Addr) : Sp := fun vs H Q _ => ∃ (p l r dx : Addr) (L : Lts) (R : List Rl) (x : Wd), vs = [.ref p, wv x] ∧ H p = some (.ins C dx (bkF l r)) ∧ LtAt K H l L ∧ RsAt K H r R ∧ BOk L R ∧ WOk L x ∧
  ∀ H' q, Same H H' → SqT K H' q ((stp L R x).map wv) → Q (.ref q) H'
structure BookC (K : PySem.W.Frag) (mg : Str → Option Value) (C : Addr) : Prop where
  cls : Cls K C
  n1 : NoAttr K C "held_letters"
  n2 : NoAttr K C "held_rules"
  glo : mg "Book" = some (.ref C)
/-- letters just below -/
def nxt (L : Lts) (c : Nat) : List Nat := (lsOf L c).filter fun o => decide (o ∉ (lsOf L c).flatMap (reach L))
def lam (L : Lts) (u : Wd) : Nat → Wd → Nat
  | at_, [] => at_
  | at_, c :: v => lam L u (if at_ < u.length ∧ (u.getD at_ 0 = c ∨ u.getD at_ 0 ∈ reach L c) then at_ + 1 else at_) v
def nobK (L : Lts) (x : Wd) (k : Nat) : List Wd := if (lsOf L (x.getD k 0)).length = 0 then [x.take k ++ x.drop (k + 1)] else (nxt L (x.getD k 0)).map fun c => x.take k ++ ([c] ++ x.drop (k + 1))
def nob (L : Lts) (x : Wd) : List Wd := (List.range x.length).flatMap (nobK L x)
def spNext (K : PySem.W.Frag) : Sp := fun vs H Q _ => ∃ (d : Addr) (L : Lts) (c : Nat), vs = [.ref d, lv c] ∧ DictL K H d L ∧ LOk L ∧ c ∈ names L ∧ ∀ H' p, Same H H' → H' p = some (.lst ((nxt L c).map lv)) → H p = none → Q (.ref p) H'
def spLam (K : PySem.W.Frag) : Sp := fun vs H Q _ => ∃ (d : Addr) (L : Lts) (u v : Wd), vs = [.ref d, wv u, wv v] ∧ DictL K H d L ∧ LOk L ∧ WOk L u ∧ WOk L v ∧ ∀ H', Same H H' → Q (.bl (decide (lam L u 0 v = u.length))) H'
def spAtMost (K : PySem.W.Frag) : Sp := fun vs H Q _ => ∃ (b : Addr) (L : Lts) (R : List Rl) (u v : Wd), vs = [.ref b, wv u, wv v] ∧ Bk K H b L R ∧ LOk L ∧ WOk L u ∧ WOk L v ∧ ∀ H', Same H H' → Q (.bl (decide (lam L u 0 v = u.length))) H'
def spNob (K : PySem.W.Frag) : Sp := fun vs H Q _ => ∃ (d : Addr) (L : Lts) (x : Wd), vs = [.ref d, wv x] ∧ DictL K H d L ∧ LOk L ∧ WOk L x ∧ x.length ≤ 10 ∧ ∀ H' p, Same H H' → H' p = some (.lst ((nob L x).map wv)) → Q (.ref p) H'
def spNextLess (K : PySem.W.Frag) : Sp := fun vs H Q _ => ∃ (b : Addr) (L : Lts) (R : List Rl) (x : Wd), vs = [.ref b, wv x] ∧ Bk K H b L R ∧ LOk L ∧ WOk L x ∧ x.length ≤ 10 ∧
  ∀ H' p (ys : List Str), Same H H' → sortedS ys = true → ys.Nodup → (∀ z, z ∈ ys ↔ z ∈ (nob L x).map tx) → ys.length ≤ 1000 → SqT K H' p (ys.map V.str) → Q (.ref p) H'
section
variable {P : Program} {w : World} {K : PySem.W.Frag} {mg : Str → Option Value} {base : Heap} (B : Bt K mg)
theorem r_Bookinit {C f : Addr} {fd : FuncData} {dvs : List V} (hd : dvs.length = 2) (F : FunD K "__init__" "Book.__init__" (defArgs s_Book__init__) (defBody s_Book__init__) (defScope s_Book__init__) dvs [] f fd) (c : BookC K mg C)
    (h_lets_book : Has P w K mg base "lets_book" [] 6 (spLets K)) : ∃ ps, FnOk P w K mg base CX0 7 f fd ps (spInit K C) ∧ Binds K fd ps [] := by
  have hb : ∃ ds, Vals (dvs.drop 2) ds ∧ Binds K fd ["self", "letters", "rules"] ds := F.binds1 3 2 (by intro z; rw [z] at hd; cases hd) (by rw [hd]; rfl) fun T kV doc pm an cdv ct us its hu hi => by
    rw [hd] at hi
    match us, its, hu, hi with
    | [_, _, _], [_, _], _, _ => exact ⟨_, rfl, rfl⟩
  obtain ⟨ds, h1, h2⟩ := hb
  rw [show dvs.drop 2 = [] from List.drop_of_length_le (by omega)] at h1
  cases h1
  refine ⟨_, F.ok sc_Book__init__ (fun vs H Q E h => by obtain ⟨_, _, _, _, _, _, rfl, _⟩ := h; rfl) (fun cdv A outer s H vs Q E hr h => ?_), h2⟩
  obtain ⟨p, l, r, dx, L, R, rfl, hp, hl, hrs, hB, q⟩ := h
  refine ⟨_, PSs.nox (pss_cons (ps_expr (pe_has h_lets_book (hr.mono (by decide)) rfl (pa_cons (pe_tup (pa_cons (pv 1) (pa_cons (pv 2) pa_nil))) pa_nil)))
      (pss_cons (ps_fld (pv 0) (pv 1) rfl)
      (pss_one (ps_fld (pv 0) (pv 2) rfl)))), ?_⟩
  refine ⟨_, rfl, _, rfl, two_ok, fun t nt => ?_⟩
  have e0 := same_upd (o := .tup [.ref l, .ref r]) nt
  refine ⟨t, L, R, rfl, ⟨l, r, .of upd_same, hl.ext e0, hrs.ext e0⟩, hB, fun H1 e1 => ?_⟩
  have e01 := e0.trans e1
  refine ⟨_, rfl, _, rfl, p, C, dx, _, rfl, e01 _ _ hp, c.cls, c.n1, by decide, ?_⟩
  refine ⟨_, rfl, _, rfl, p, C, dx, _, rfl, upd_same, c.cls, c.n2, (by show (1 : Nat) < 1000; decide), ?_⟩
  refine q _ (fun b o hb h => ?_) ?_
  · rw [upd_ne hb, upd_ne hb]
    exact e01 _ _ h
  · rw [upd_same]
    rfl
theorem dict_of {H : Hp} {l : Addr} {L : Lts} (h : LtAt K H l L) (hL : LOk L) : ∃ (ps : List Addr) (prs : List (Key × V)), PlT H l (ps.map V.ref) ∧ Paired (fun p kv => SqT K H p [kV kv.1, kv.2]) ps prs ∧ ∀ p, H p = none → DictL K (upd H p (.dK (mergeK [] prs))) p L := by
  obtain ⟨ls, h1, h2⟩ := h
  obtain ⟨ps, prs, rfl, e2, e3⟩ := DK.merge (K := K) (H := H) (M := []) (kvs := []) h2 trivial (by rw [List.nil_append]; exact hL.nd)
  exact ⟨ps, prs, h1, e2, fun p np => ⟨_, upd_same, (show DK K H _ L from e3).ext (same_upd np)⟩⟩
include B
theorem r_Bookcall {C f : Addr} {fd : FuncData} (F : FunD K "__call__" "Book.__call__" (defArgs s_Book__call__) (defBody s_Book__call__) (defScope s_Book__call__) [] [] f fd) (c : BookC K mg C)
    (h_want_thing : Has P w K mg base "want_thing" [] 3 (spWantThing K)) (h_steps_by : Has P w K mg base "steps_by" [] 3 (spSteps K)) : FnR P w K mg base CX0 4 f (spBcall K C) := by
  have hb : Binds K fd ["self", "x"] [] := F.bindsN fun _ _ _ _ _ _ us hl => match us, hl with | [_, _], _ => rfl
  refine FnOk.toR (F.ok sc_Book__call__ (fun vs H Q E h => by obtain ⟨_, _, _, _, _, _, _, rfl, _⟩ := h; rfl) (fun cdv A outer s H vs Q E hr h => ?_)) hb
  obtain ⟨p, l, r, dx, L, R, x, rfl, hp, hl, hrs, hB, hx, q⟩ := h
  refine ⟨_, PSs.nox (pss_cons (ps_expr (pe_has h_want_thing (hr.mono (by decide)) rfl (pa_cons pe_str (pa_cons (pe_tup (pa_cons (pe_fld (pv 0) rfl) (pa_cons (pe_fld (pv 0) rfl) pa_nil))) (pa_cons (pv 1) pa_nil)))))
      (pss_one (ps_ret (pe_has h_steps_by (hr.mono (by decide)) rfl (pa_cons (pe_callTy (call_dictTP rfl) rfl B.dict_ (by decide +kernel) (pa_cons (pe_fld (pv 0) rfl) pa_nil)) (pa_cons (pe_fld (pv 0) rfl) (pa_cons (pv 1) pa_nil))))))), ?_⟩
  refine ⟨_, rfl, p, C, dx, _, _, rfl, hp, c.cls, c.n1, rfl, ?_⟩
  refine ⟨_, rfl, p, C, dx, _, _, rfl, hp, c.cls, c.n2, rfl, two_ok, fun t nt => ?_⟩
  have e0 := same_upd (o := .tup [.ref l, .ref r]) nt
  refine ⟨_, rfl, _, t, L, R, x, rfl, ⟨l, r, .of upd_same, hl.ext e0, hrs.ext e0⟩, hB.l, hx, fun H1 e1 => ?_⟩
  have e01 := e0.trans e1
  refine ⟨_, rfl, p, C, dx, _, _, rfl, e01 _ _ hp, c.cls, c.n1, rfl, ?_⟩
  obtain ⟨pp, prs, g1, g2, g3⟩ := dict_of (hl.ext e01) hB.l
  refine ⟨l, pp, prs, rfl, g1, g2, fun d nd => ?_⟩
  have e02 := e01.trans (same_upd (o := .dK (mergeK [] prs)) nd)
  have hd := g3 d nd
  refine ⟨_, rfl, p, C, dx, _, _, rfl, e02 _ _ hp, c.cls, c.n2, rfl, ?_⟩
  have := hB.len
  exact ⟨_, rfl, d, r, L, R, x, rfl, hd, hB.l, hrs.ext e02, hB.r, by omega, hx, fun H3 q3 e3 h3 => q _ q3 (e02.trans e3) h3⟩
omit B in
theorem h_next_ones (D : Def K mg "next_ones" s_next_ones [] []) (h_reached_letters : Has P w K mg base "reached_letters" [] 1 (spReach K)) : Has P w K mg base "next_ones" [] 2 (spNext K) := by
  refine has_of D sc_next_ones (fun vs H Q E h => by obtain ⟨_, _, _, rfl, _⟩ := h; rfl) (fun _ _ _ _ _ _ us hl => match us, hl with | [_, _], _ => rfl) fun f cdv A outer s H vs Q E hr h => ?_
  obtain ⟨d, L, c, rfl, ⟨kvs, hd, hk⟩, hL, hc, q⟩ := h
  have hu := hu_of hr
  have hl4 := hL.lsLen hc
  obtain ⟨b, g1, g2⟩ := hk.find hc hL.nd
  refine ⟨_, (pss_cons (ps_set (i := 2) sc_next_ones.nd rfl (Or.inl rfl) (pe_dget hu (pv 0) (pv 1) (fun _ _ => rfl)))
      (pss_cons (ps_set (i := 3) sc_next_ones.nd rfl (Or.inr rfl) (pe_lc2 (own := [("other", 4), ("one", 5)]) (vs1 := [5]) rfl sc_next_ones.nd (pi_tup (pv 2)) (blkOk_by (N := N_next_ones) (sc := defScope s_next_ones) (by decide +kernel)) (by decide) (fun _ _ _ _ _ => (pg_name (i := 4) sc_next_ones.nd rfl (Or.inl rfl) (.inr rfl))) (fun _ _ _ _ _ => pts_nil) (fun _ _ _ _ _ => (pi_listK K rfl (pe_has h_reached_letters (hr.mono (by decide)) rfl (pa_cons (pv 0) (pa_cons (pv 4) pa_nil))))) (fun _ _ _ _ _ => (pg_name (i := 5) sc_next_ones.nd rfl (Or.inl rfl) (.inr rfl))) (fun _ _ _ _ _ => pts_nil) (fun _ _ _ _ _ => (pv 5))))
      (pss_one (ps_ret (pe_lc (own := [("one", 5)]) rfl sc_next_ones.nd (pi_tup (pv 2)) (blkOk_by (N := N_next_ones) (sc := defScope s_next_ones) (by decide +kernel)) (fun _ _ _ _ _ => (pg_name (i := 5) sc_next_ones.nd rfl (Or.inl rfl) (.inr rfl))) (fun _ _ _ _ _ => (pts_one (pt_cmpR (notIn_seqK K rfl) (pv 5) (pv 3) rfl))) (fun _ _ _ _ _ => (pv 5))))))), ?_⟩
  refine ⟨_, rfl, _, rfl, d, _, rfl, dgetL hd g1, ?_⟩
  refine ⟨_, rfl, b, rfl, ⟨_, g2⟩, fun Db nB => ?_⟩
  refine ow_it (walk_tup (xs := (lsOf L c).map lv)) (LcP H Db fun i => (((lsOf L c).take i).flatMap (reach L)).map lv) (.start nB rfl) (fun _ H2 _ p => sqT_ext p.1 g2) (fun i v H2 H3 hi p y => ?_) fun H2 p => ?_
  · obtain ⟨rfl, g⟩ := y
    rw [List.getElem?_map] at g
    obtain ⟨o, go, rfl⟩ := Option.map_eq_some_iff.mp g
    have hon : o ∈ names L := hL.lsNames hc (List.mem_of_getElem? go)
    have hprev := flatMap_len (reach L) 4 ((lsOf L c).take i) fun y hy => reach_len hL (hL.lsNames hc (List.mem_of_mem_take hy))
    rw [List.length_take] at hprev
    have hr4 := reach_len hL hon
    refine ⟨rfl, _, rfl, _, rfl, d, L, o, rfl, ⟨kvs, p.1 _ _ hd, hk.ext p.1⟩, hL, hon, fun H4 pr e4 np hpr => ?_⟩
    refine ⟨pr, rfl, ⟨_, .of hpr⟩, ?_⟩
    have e14 := p.1.trans e4
    have hDb := e4 _ _ p.2
    have hne : pr ≠ Db := fun z => by rw [z, p.2] at np; cases np
    refine ow_it (walk_list (xs := (reach L o).map lv)) (fun j H5 => LcP H Db (fun j => ((((lsOf L c).take i).flatMap (reach L)) ++ ((reach L o).take j)).map lv) j H5 ∧ H5 pr = some (.lst ((reach L o).map lv))) ⟨⟨e14, ?_⟩, hpr⟩ (fun _ H5 _ p2 => .of p2.2) (fun j v H5 H6 hj p2 y2 => ?_) fun H5 p2 => ?_
    · rw [hDb]
      show some (HO.lst _) = some (HO.lst ((_ ++ (reach L o).take 0).map lv))
      rw [List.take_zero, List.append_nil]
    · obtain ⟨rfl, gj⟩ := y2
      rw [List.getElem?_map] at gj
      obtain ⟨z, gz, rfl⟩ := Option.map_eq_some_iff.mp gj
      obtain ⟨p2a, p2b⟩ := p2
      refine ⟨rfl, _, rfl, ?_⟩
      obtain ⟨acc, a1, a2, a3⟩ := LcP.add (y := lv z) nB p2a (.refl _) (by rw [List.map_append, List.map_append, List.append_assoc, map_take_succ lv (reach L o) gz]) (by rw [List.length_map, List.length_append, List.length_take]; omega)
      exact ⟨acc, a1, a2, a3, by rw [upd_ne hne]; exact p2b⟩
    · refine ⟨p2.1.1, ?_⟩
      rw [p2.1.2]
      show some (HO.lst ((_ ++ (reach L o).take ((reach L o).map lv).length).map lv)) = some (HO.lst ((((lsOf L c).take (i + 1)).flatMap (reach L)).map lv))
      rw [List.length_map, List.take_length, List.take_add_one, go, List.flatMap_append]
      simp
  · have hbey : H2 Db = some (.lst (((lsOf L c).flatMap (reach L)).map lv)) := by
      rw [p.2]
      show some (HO.lst (List.map lv (((lsOf L c).take ((lsOf L c).map lv).length).flatMap (reach L)))) = _
      rw [List.length_map, List.take_length]
    refine ⟨_, rfl, b, rfl, ⟨_, sqT_ext p.1 g2⟩, fun Dk nD => ?_⟩
    refine lc_it (walk_tup (xs := (lsOf L c).map lv)) (LcP H2 Dk fun i => (((lsOf L c).take i).filter fun o => decide (o ∉ (lsOf L c).flatMap (reach L))).map lv) (.start nD rfl) (fun _ H3 _ p' => sqT_ext (p.1.trans p'.1) g2) (fun i v H3 H4 hi p' y => ?_) fun H3 p' => ?_
    · obtain ⟨rfl, g⟩ := y
      rw [List.getElem?_map] at g
      obtain ⟨o, go, rfl⟩ := Option.map_eq_some_iff.mp g
      refine ⟨rfl, _, rfl, _, rfl, Db, _, rfl, .inl (.of (p'.1 _ _ hbey)), rfl, flat_lv _, _, rfl, ?_⟩
      rw [inV_lv]
      by_cases hm : o ∈ (lsOf L c).flatMap (reach L)
      · rw [decide_eq_true hm]
        refine p'.skip (.refl _) ?_
        rw [List.take_add_one, go, List.filter_append, List.map_append, show (some o).toList = [o] from rfl, List.filter_cons_of_neg (by simpa using hm)]
        simp
      · rw [decide_eq_false hm]
        refine ⟨_, rfl, p'.add nD (.refl _) ?_ ?_⟩
        · rw [List.take_add_one, go, List.filter_append, List.map_append, show (some o).toList = [o] from rfl, List.filter_cons_of_pos (by simpa using hm)]
          simp
        · rw [List.length_map]
          have := List.length_filter_le (fun o => decide (o ∉ (lsOf L c).flatMap (reach L))) ((lsOf L c).take i)
          rw [List.length_take] at this
          omega
    · refine q _ Dk (p.1.trans p'.1) ?_ (p.1.free nD)
      rw [p'.2]
      show some (HO.lst ((((lsOf L c).take ((lsOf L c).map lv).length).filter _).map lv)) = _
      rw [List.length_map, List.take_length]
      rfl
theorem h_lies_at_most (D : Def K mg "lies_at_most" s_lies_at_most [] []) (h_reached_letters : Has P w K mg base "reached_letters" [] 1 (spReach K)) : Has P w K mg base "lies_at_most" [] 2 (spLam K) := by
  refine has_of D sc_lies_at_most (fun vs H Q E h => by obtain ⟨_, _, _, _, rfl, _⟩ := h; rfl) (fun _ _ _ _ _ _ us hl => match us, hl with | [_, _, _], _ => rfl) fun f cdv A outer s H vs Q E hr h => ?_
  obtain ⟨d, L, u, v, rfl, hd, hL, hu, hv, q⟩ := h
  have hzu : (tx u).length ≤ sizeLine := sl2 (by rw [tx_len]; have := hu.2; omega)
  refine ⟨_, (pss_cons (ps_set (i := 3) sc_lies_at_most.nd rfl (Or.inl rfl) pe_int)
      (pss_cons (ps_for PassesOwn.never rfl (pi_str (pv 2)) (pg_name (i := 4) sc_lies_at_most.nd rfl (Or.inl rfl)) (pss_one (ps_if (PW.pt (pw_and (pt_cmpR op_lt (pv 3) (pe_callB call_len_str rfl B.len_ (by decide +kernel) (pa_cons (pv 1) pa_nil)) (nomark _)) (pw_and1 (PW.pt (pw_or (pt_cmpR op_eq (pe_ix ix_str (pv 1) (pv 3) (fun _ _ => rfl)) (pv 4) (nomark _)) (pw_or1 (pt_cmpR op_in_seq (pe_ix ix_str (pv 1) (pv 3) (fun _ _ => rfl)) (pe_has h_reached_letters (hr.mono (by decide)) rfl (pa_cons (pv 0) (pa_cons (pv 4) pa_nil))) rfl))))))) (pss_one (ps_set (i := 3) sc_lies_at_most.nd rfl (Or.inl rfl) (pe_op op_add (pv 3) pe_int))) pss_nil)))
      (pss_one (ps_ret (pe_cmpR op_eq (pv 3) (pe_callB call_len_str rfl B.len_ (by decide +kernel) (pa_cons (pv 1) pa_nil)) (nomark _)))))), ?_⟩
  refine ⟨_, rfl, _, rfl, ?_⟩
  refine for_it walk_str (fun i σ H2 => Same H H2 ∧ ∃ (n : Nat) (u1 : Option V), σ = [some (.ref d), some (wv u), some (wv v), some (.int (n : Nat)), u1] ∧ lam L u n (v.drop i) = lam L u 0 v) ⟨.refl _, 0, _, rfl, rfl⟩ (fun _ _ _ _ _ => trivial) (fun i x σ H2 H3 hi p y => ?_) fun σ H2 p => ?_
  · obtain ⟨e2, n, u1, rfl, hlam⟩ := p
    obtain ⟨rfl, c, hc, rfl⟩ := y
    have hc' : v[i]? = some c := by
      rw [← tx_cps v, Array.getElem?_toList]
      exact hc
    have hdr : v.drop i = c :: v.drop (i + 1) := by
      obtain ⟨h1, h2⟩ := List.getElem?_eq_some_iff.mp hc'
      rw [List.drop_eq_getElem_cons h1, h2]
    rw [hdr] at hlam
    have hcn : c ∈ names L := hv.1 c (List.mem_of_getElem? hc')
    refine ⟨_, rfl, _, rfl, _, rfl, hzu, _, _, rfl, rfl, _, rfl, ?_⟩
    by_cases hn : n < u.length
    · refine iteD (by rw [tx_len]; omega) ?_
      have hun : u[n]? = some (u.getD n 0) := by rw [List.getD_eq_getElem?_getD, List.getElem?_eq_getElem hn]; rfl
      refine ⟨_, rfl, _, rfl, _, _, _, rfl, rfl, hzu, atI_nat (by rw [tx_cps]; exact hun), _, rfl, rfl, _, rfl, ?_⟩
      by_cases he : u.getD n 0 = c
      · refine iteD (by rw [he]) ?_
        refine ⟨_, rfl, _, _, rfl, rfl, e2, n + 1, some (lv c), ?_, ?_⟩
        · rw [Int.natCast_add]
          rfl
        · rw [← hlam]
          show _ = lam L u (if n < u.length ∧ (u.getD n 0 = c ∨ u.getD n 0 ∈ reach L c) then n + 1 else n) _
          rw [if_pos ⟨hn, .inl he⟩]
      · refine iteDN (fun z => he (List.cons.inj (tx_inj (V.str.inj z))).1) ?_
        refine ⟨_, rfl, _, rfl, _, _, _, rfl, rfl, hzu, atI_nat (by rw [tx_cps]; exact hun), _, rfl, _, rfl, d, L, c, rfl, hd.ext e2, hL, hcn, fun H4 p4 e4 np hp => ?_⟩
        refine ⟨p4, _, rfl, .inl (.of hp), rfl, flat_lv _, _, rfl, ?_⟩
        show if inV (lv (u.getD n 0)) ((reach L c).map lv) = true then _ else _
        rw [inV_lv]
        by_cases hm : u.getD n 0 ∈ reach L c
        · refine iteD hm ?_
          refine ⟨_, rfl, _, _, rfl, rfl, e2.trans e4, n + 1, some (lv c), ?_, ?_⟩
          · rw [Int.natCast_add]
            rfl
          · rw [← hlam]
            show _ = lam L u (if n < u.length ∧ (u.getD n 0 = c ∨ u.getD n 0 ∈ reach L c) then n + 1 else n) _
            rw [if_pos ⟨hn, .inr hm⟩]
        · refine iteDN hm ?_
          refine ⟨e2.trans e4, n, some (lv c), rfl, ?_⟩
          rw [← hlam]
          show _ = lam L u (if n < u.length ∧ (u.getD n 0 = c ∨ u.getD n 0 ∈ reach L c) then n + 1 else n) _
          rw [if_neg (fun z => z.2.elim he hm)]
    · refine iteDN (by rw [tx_len]; omega) ?_
      refine ⟨e2, n, some (lv c), rfl, ?_⟩
      rw [← hlam]
      show _ = lam L u (if n < u.length ∧ (u.getD n 0 = c ∨ u.getD n 0 ∈ reach L c) then n + 1 else n) _
      rw [if_neg (fun z => hn z.1)]
  · obtain ⟨e2, n, u1, rfl, hlam⟩ := p
    refine ⟨_, rfl, _, rfl, _, rfl, hzu, rfl, ?_⟩
    have hdr : v.drop (tx v).cps.size = [] := List.drop_of_length_le (by simp [tx])
    rw [hdr] at hlam
    have hn : n = lam L u 0 v := hlam
    have : decide (V.int (n : Nat) = V.int ((tx u).length : Nat)) = decide (lam L u 0 v = u.length) := by
      rw [tx_len, ← hn]
      by_cases h : n = u.length
      · rw [decide_eq_true h, decide_eq_true (by rw [h])]
      · rw [decide_eq_false h, decide_eq_false (fun z => h (by have := V.int.inj z; omega))]
    show Q (.bl (decide (V.int (n : Nat) = V.int ((tx u).length : Nat)))) H2
    rw [this]
    exact q _ e2
omit B in
theorem h_is_at_most (Bt' : Bt K mg) (D : Def K mg "is_at_most" s_is_at_most [] []) (h_want_thing : Has P w K mg base "want_thing" [] 3 (spWantThing K)) (h_lies_at_most : Has P w K mg base "lies_at_most" [] 2 (spLam K)) : Has P w K mg base "is_at_most" [] 4 (spAtMost K) := by
  have B := Bt'
  refine has_of D sc_is_at_most (fun vs H Q E h => by obtain ⟨_, _, _, _, _, rfl, _⟩ := h; rfl) (fun _ _ _ _ _ _ us hl => match us, hl with | [_, _, _], _ => rfl) fun f cdv A outer s H vs Q E hr h => ?_
  obtain ⟨b, L, R, u, v, rfl, hb, hL, hu, hv, q⟩ := h
  refine ⟨_, (pss_cons (ps_expr (pe_has h_want_thing (hr.mono (by decide)) rfl (pa_cons pe_str (pa_cons (pv 0) (pa_cons (pv 1) pa_nil)))))
      (pss_cons (ps_expr (pe_has h_want_thing (hr.mono (by decide)) rfl (pa_cons pe_str (pa_cons (pv 0) (pa_cons (pv 2) pa_nil)))))
      (pss_one (ps_ret (pe_has h_lies_at_most (hr.mono (by decide)) rfl (pa_cons (pe_callTy (call_dictTP rfl) rfl B.dict_ (by decide +kernel) (pa_cons (pe_ix ix_tup (pv 0) pe_int (fun _ _ => rfl)) pa_nil)) (pa_cons (pv 1) (pa_cons (pv 2) pa_nil)))))))), ?_⟩
  refine ⟨_, rfl, _, rfl, _, b, L, R, u, rfl, hb, hL, hu, fun H1 e1 => ?_⟩
  refine ⟨_, rfl, _, rfl, _, b, L, R, v, rfl, hb.ext e1, hL, hv, fun H2 e2 => ?_⟩
  obtain ⟨l, r, hS, hlt, hrs⟩ := hb.ext (e1.trans e2)
  obtain ⟨pp, prs, g1, g2, g3⟩ := dict_of hlt hL
  refine ⟨_, rfl, b, _, 0, _, rfl, rfl, hS, rfl, l, pp, prs, rfl, g1, g2, fun d nd => ?_⟩
  exact ⟨_, rfl, _, rfl, d, L, u, v, rfl, g3 d nd, hL, hu, hv, fun H3 e3 => q _ ((e1.trans e2).trans ((same_upd nd).trans e3))⟩
omit B in
theorem nxt_len {L : Lts} (hL : LOk L) {c : Nat} (hc : c ∈ names L) : (nxt L c).length ≤ 4 := Nat.le_trans (List.length_filter_le ..) (hL.lsLen hc)
omit B in
theorem nobK_len {L : Lts} (hL : LOk L) {x : Wd} {k : Nat} (hc : x.getD k 0 ∈ names L) : (nobK L x k).length ≤ 4 := by
  unfold nobK
  split
  · exact Nat.le_trans (Nat.le_refl 1) (by decide)
  · rw [List.length_map]
    exact nxt_len hL hc
omit B in
theorem h_next_ones_below (Bt' : Bt K mg) (D : Def K mg "next_ones_below" s_next_ones_below [] []) (h_next_ones : Has P w K mg base "next_ones" [] 2 (spNext K)) : Has P w K mg base "next_ones_below" [] 3 (spNob K) := by
  have B := Bt'
  refine has_of D sc_next_ones_below (fun vs H Q E h => by obtain ⟨_, _, _, rfl, _⟩ := h; rfl) (fun _ _ _ _ _ _ us hl => match us, hl with | [_, _], _ => rfl) fun f cdv A outer s H vs Q E hr h => ?_
  obtain ⟨d, L, x, rfl, ⟨kvs, hd, hk⟩, hL, hx, hx10, q⟩ := h
  have hu := hu_of hr
  have hz : (tx x).length ≤ sizeLine := sl2 (by rw [tx_len]; have := hx.2; omega)
  refine ⟨_, (pss_cons (ps_set (i := 2) sc_next_ones_below.nd rfl (Or.inl rfl) (pe_lst pa_nil))
      (pss_cons (ps_for PassesOwn.never rfl (pi_enumS rfl B.enumerate_ (pa_cons (pv 1) pa_nil)) (pg_tup rfl (pgs_cons (pg_name (i := 3) sc_next_ones_below.nd rfl (Or.inr rfl)) (pgs_cons (pg_name (i := 4) sc_next_ones_below.nd rfl (Or.inl rfl)) pgs_nil))) (pss_one (ps_if (pt_cmpR op_eq (pe_callB call_len_seq rfl B.len_ (by decide +kernel) (pa_cons (pe_dget hu (pv 0) (pv 4) (fun _ _ => rfl)) pa_nil)) pe_int (nomark _)) (pss_one (ps_expr (pe_bm PySem.F.plainAttrs_list PySem.F.slot_list_append PySem.F.type_list_append mt_append (pv 2) (pa_cons (pe_op op_add_str (pe_slice sl_str (pv 1) po_none (po_some (pv 3))) (pe_slice sl_str (pv 1) (po_some (pe_op op_add (pv 3) pe_int)) po_none)) pa_nil)))) (pss_one (ps_expr (pe_bm PySem.F.plainAttrs_list PySem.F.slot_list_extend PySem.F.type_list_extend mt_extend (pv 2) (pa_cons (pe_lc (own := [("less", 5)]) rfl sc_next_ones_below.nd (pi_list (pe_has h_next_ones (hr.mono (by decide)) rfl (pa_cons (pv 0) (pa_cons (pv 4) pa_nil)))) (blkOk_by (N := N_next_ones_below) (sc := defScope s_next_ones_below) (by decide +kernel)) (fun _ _ _ _ _ => (pg_name (i := 5) sc_next_ones_below.nd rfl (Or.inl rfl) (.inr rfl))) (fun _ _ _ _ _ => pts_nil) (fun _ _ _ _ _ => (pe_op op_add_str (pe_op op_add_str (pe_slice sl_str (pv 1) po_none (po_some (pv 3))) (pv 5)) (pe_slice sl_str (pv 1) (po_some (pe_op op_add (pv 3) pe_int)) po_none)))) pa_nil)))))))
      (pss_one (ps_ret (pv 2))))), ?_⟩
  refine ⟨by decide, fun pf nf => ?_⟩
  refine ⟨_, rfl, _, rfl, ?_⟩
  refine for_it walk_enumS (fun i σ H2 => Same H H2 ∧ H2 pf = some (.lst (((List.range i).flatMap (nobK L x)).map wv)) ∧ ∃ u1 u2, σ = [some (.ref d), some (wv x), some (.ref pf), u1, u2, none]) ⟨same_upd nf, by rw [upd_same]; rfl, _, _, rfl⟩ (fun _ _ _ _ _ => trivial) (fun i v σ H2 H3 hi p y => ?_) fun σ H2 p => ?_
  · obtain ⟨e2, hf, u1, u2, rfl⟩ := p
    obtain ⟨T, x1, x2, rfl, e3, -, hT, h1, h2⟩ := YPair.same y
    cases h1
    obtain ⟨c, hc, rfl⟩ := Option.map_eq_some_iff.mp h2
    have hil : i < x.length := by simpa [tx] using hi
    have hc' : x[i]? = some c := by
      rw [← tx_cps x, Array.getElem?_toList]
      exact hc
    have hgd : x.getD i 0 = c := by rw [List.getD_eq_getElem?_getD, hc']; rfl
    have hcn : c ∈ names L := hx.1 c (List.mem_of_getElem? hc')
    have e23 := e2.trans e3
    have hf3 := e3 _ _ hf
    obtain ⟨b, g1, g2⟩ := (hk.ext e23).find hcn hL.nd
    have hprev := flatMap_len (nobK L x) 4 (List.range i) fun k hk' => nobK_len hL (hx.1 _ (by
      have : k < x.length := by have := List.mem_range.mp hk'; omega
      rw [List.getD_eq_getElem?_getD, List.getElem?_eq_getElem this]
      exact List.getElem_mem this))
    rw [List.length_range] at hprev
    have hsucc : ((List.range (i + 1)).flatMap (nobK L x)).map wv = ((List.range i).flatMap (nobK L x)).map wv ++ (nobK L x i).map wv := by
      rw [List.range_succ, List.flatMap_append, List.map_append]
      simp
    refine ⟨T, _, rfl, .of hT, rfl, _, _, rfl, _, _, rfl, rfl, ?_⟩
    refine ⟨_, rfl, _, rfl, d, _, rfl, dgetL (e23 _ _ hd) g1, b, _, rfl, .inr g2, rfl, _, rfl, ?_⟩
    by_cases h0 : (lsOf L c).length = 0
    · refine iteD (by rw [List.length_map, h0]; rfl) ?_
      refine ⟨_, rfl, .inl ⟨rfl, _, .of hf3⟩, _, rfl, _, rfl, _, rfl, _, rfl, hz, _, rfl, _, rfl, _, _, rfl, rfl, _, rfl, _, rfl, hz, ?_⟩
      rw [cutS_to, show (some ((i : Int) + 1) : Option Int) = some (((i + 1 : Nat)) : Int) by rw [Int.natCast_add]; rfl, cutS_from]
      refine ⟨_, _, rfl, rfl, sl2 (by rw [tx_len, tx_len, List.length_take, List.length_drop]; omega), ?_⟩
      rw [tx_app]
      refine ⟨pf, _, _, rfl, rfl, hf3, by rw [List.length_map, sizeLine_eq]; omega, same_put e23 nf, ?_, _, _, rfl⟩
      rw [upd_same, hsucc]
      unfold nobK
      rw [hgd, if_pos h0]
      rfl
    · refine iteDN (fun z => h0 (by rw [List.length_map] at z; have := V.int.inj z; omega)) ?_
      refine ⟨_, rfl, .inl ⟨rfl, _, .of hf3⟩, ?_⟩
      refine ⟨_, rfl, _, rfl, d, L, c, rfl, ⟨kvs, e23 _ _ hd, hk.ext e23⟩, hL, hcn, fun H4 pn e4 hpn nn => ?_⟩
      have hn4 := nxt_len hL hcn
      refine ⟨pn, rfl, ⟨_, .of hpn⟩, fun Dk nD => ?_⟩
      refine lc_it (walk_list (xs := (nxt L c).map lv)) (LcP H4 Dk fun j => ((((nxt L c).map fun c => x.take i ++ ([c] ++ x.drop (i + 1)))).take j).map wv) (.start nD rfl) (fun _ H5 _ p' => .of (p'.1 _ _ hpn)) (fun j v H5 H6 hj p' y => ?_) fun H5 p' => ?_
      · obtain ⟨rfl, g⟩ := y
        rw [List.getElem?_map] at g
        obtain ⟨o, go, rfl⟩ := Option.map_eq_some_iff.mp g
        refine ⟨rfl, _, rfl, _, rfl, _, rfl, _, rfl, hz, ?_⟩
        rw [cutS_to]
        refine ⟨_, rfl, _, _, rfl, rfl, sl2 (by show (tx (x.take i)).length + (tx [o]).length ≤ 5000; rw [tx_len, tx_len, List.length_take]; simp; omega), ?_⟩
        refine ⟨_, rfl, _, rfl, _, _, rfl, rfl, _, rfl, _, rfl, hz, ?_⟩
        rw [show (some ((i : Int) + 1) : Option Int) = some (((i + 1 : Nat)) : Int) by rw [Int.natCast_add]; rfl, cutS_from, tx_app]
        refine ⟨_, _, rfl, rfl, sl2 (by rw [tx_len, tx_len, List.length_drop, List.length_append, List.length_take]; simp; omega), ?_⟩
        rw [tx_app, List.append_assoc]
        refine p'.add nD (.refl _) (map_take_succ wv _ (by rw [List.getElem?_map, go]; rfl)) ?_
        rw [List.length_map, List.length_take, List.length_map]
        omega
      · have e5 := e23.trans (e4.trans p'.1)
        have hf5 := (e4.trans p'.1) _ _ hf3
        have hD5 : H5 Dk = some (.lst ((nobK L x i).map wv)) := by
          rw [p'.2]
          show some (HO.lst (((((nxt L c).map fun c => x.take i ++ ([c] ++ x.drop (i + 1)))).take ((nxt L c).map lv).length).map wv)) = _
          rw [List.take_of_length_le (by rw [List.length_map, List.length_map]; exact Nat.le_refl _)]
          unfold nobK
          rw [hgd, if_neg h0]
        have h5 := nobK_len hL (x := x) (k := i) (by rw [hgd]; exact hcn)
        refine ⟨pf, Dk, _, _, rfl, rfl, hf5, hD5, by rw [List.length_map, List.length_map, sizeLine_eq]; omega, same_put e5 nf, ?_, _, _, rfl⟩
        rw [upd_same, hsucc]
  · obtain ⟨e2, hf, u1, u2, rfl⟩ := p
    refine ⟨_, rfl, q _ pf e2 ?_⟩
    rw [hf]
    have : (tx x).cps.size = x.length := by simp [tx]
    rw [this]
    rfl
omit B in
theorem h_next_less (Bt' : Bt K mg) (D : Def K mg "next_less" s_next_less [] []) (h_want_thing : Has P w K mg base "want_thing" [] 3 (spWantThing K)) (h_next_ones_below : Has P w K mg base "next_ones_below" [] 3 (spNob K)) : Has P w K mg base "next_less" [] 4 (spNextLess K) := by
  have B := Bt'
  refine has_of D sc_next_less (fun vs H Q E h => by obtain ⟨_, _, _, _, rfl, _⟩ := h; rfl) (fun _ _ _ _ _ _ us hl => match us, hl with | [_, _], _ => rfl) fun f cdv A outer s H vs Q E hr h => ?_
  obtain ⟨b, L, R, x, rfl, hb, hL, hx, hx10, q⟩ := h
  refine ⟨_, (pss_cons (ps_expr (pe_has h_want_thing (hr.mono (by decide)) rfl (pa_cons pe_str (pa_cons (pv 0) (pa_cons (pv 1) pa_nil)))))
      (pss_one (ps_ret (pe_tupleOf rfl B.tuple_ (pe_callB (cr_sortSX rfl) rfl B.sorted_ (by decide +kernel) (pa_cons (pe_callTy (call_setT rfl) rfl B.set_ (by decide +kernel) (pa_cons (pe_has h_next_ones_below (hr.mono (by decide)) rfl (pa_cons (pe_callTy (call_dictTP rfl) rfl B.dict_ (by decide +kernel) (pa_cons (pe_ix ix_tup (pv 0) pe_int (fun _ _ => rfl)) pa_nil)) (pa_cons (pv 1) pa_nil))) pa_nil)) pa_nil)))))), ?_⟩
  refine ⟨_, rfl, _, rfl, _, b, L, R, x, rfl, hb, hL, hx, fun H1 e1 => ?_⟩
  obtain ⟨l, r, hS, hlt, hrs⟩ := hb.ext e1
  obtain ⟨pp, prs, g1, g2, g3⟩ := dict_of hlt hL
  refine ⟨_, rfl, b, _, 0, _, rfl, rfl, hS, rfl, l, pp, prs, rfl, g1, g2, fun d nd => ?_⟩
  refine ⟨_, rfl, d, L, x, rfl, g3 d nd, hL, hx, hx10, fun H2 p e2 hp => ?_⟩
  have hn : (nob L x).length ≤ 40 := by
    have := flatMap_len (nobK L x) 4 (List.range x.length) fun k hk' => nobK_len hL (hx.1 _ (by
      have : k < x.length := List.mem_range.mp hk'
      rw [List.getD_eq_getElem?_getD, List.getElem?_eq_getElem this]
      exact List.getElem_mem this))
    rw [List.length_range] at this
    exact Nat.le_trans this (by omega)
  refine ⟨p, (nob L x).map tx, rfl, .of (by rw [hp, List.map_map]; rfl), by rw [List.length_map]; omega, fun ks p2 nd2 hm hle np2 => ?_⟩
  rw [List.length_map] at hle
  refine ⟨p2, ks, rfl, upd_same, by omega, fun ys p3 hpm hso np3 => ?_⟩
  refine .inl ⟨p3, _, rfl, .of upd_same, fun p4 np4 => ?_⟩
  refine q _ p4 ys ((((e1.trans (same_upd nd)).trans e2).trans (same_upd np2)).trans ((same_upd np3).trans (same_upd np4))) hso (hpm.nodup_iff.mpr nd2) (fun z => by rw [hpm.mem_iff]; exact hm z) (by rw [hpm.length_eq]; omega) (.of upd_same)
end
end Fk

set_option Elab.async false
set_option linter.all false
set_option maxRecDepth 100000
set_option maxHeartbeats 4000000
/-! Fk W1: the tape: draws, picks, signs. -/
namespace Fk
open PySem PySem.Spec PyProof.Rows L2
/-- the tape: its script, its place, what is left of a long cell, the count of draws -/
def Tp (K : PySem.W.Frag) (H : Hp) (t sc : Addr) (xs : List Int) (b : Nat) : Prop := ∃ (sp : Nat) (g : Int) (c : Nat), H t = some (.lst [.ref sc, .int (sp : Nat), .int g, .int (c : Nat)]) ∧ SqL K H sc (xs.map V.int) ∧ xs.length ≤ 100 ∧ 0 ≤ g ∧ c ≤ b
theorem Tp.mono {K : PySem.W.Frag} {H : Hp} {t sc : Addr} {xs : List Int} {b b' : Nat} (h : Tp K H t sc xs b) (hb : b ≤ b') : Tp K H t sc xs b' := by
  obtain ⟨sp, g, c, h1, h2, h3, h4, h5⟩ := h
  exact ⟨sp, g, c, h1, h2, h3, h4, by omega⟩
theorem Tp.ext {K : PySem.W.Frag} {H H' : Hp} {t sc : Addr} {xs : List Int} {b : Nat} (h : Tp K H t sc xs b) (e : Same H H') : Tp K H' t sc xs b := by
  obtain ⟨sp, g, c, h1, h2, h3, h4, h5⟩ := h
  exact ⟨sp, g, c, e _ _ h1, e.seq h2, h3, h4, h5⟩
theorem Tp.at {K : PySem.W.Frag} {H : Hp} {t sc : Addr} {xs : List Int} {b : Nat} (h : Tp K H t sc xs b) : ∃ rest, H t = some (.lst (V.ref sc :: rest)) := by
  obtain ⟨sp, g, c, h1, _⟩ := h
  exact ⟨_, h1⟩
theorem sqL_but {K : PySem.W.Frag} {H H' : Hp} {t a sc : Addr} {rest : List V} {zs : List Str} (e : SameBut t H H') (ht : H t = some (.lst (V.ref sc :: rest))) (h : SqL K H a (zs.map V.str)) : SqL K H' a (zs.map V.str) := by
  rcases h with (h | ⟨o, h⟩) | h
  · refine .inl (.inl (e _ _ (ne_of h ht ?_) h))
    intro z
    cases zs <;> simp at z
  · exact .inl (.inr ⟨o, e _ _ (ne_of h ht (by intro z; cases z)) h⟩)
  · exact .inr h
theorem sqI_but {K : PySem.W.Frag} {H H' : Hp} {t a sc : Addr} {rest : List V} {zs : List Int} (e : SameBut t H H') (ht : H t = some (.lst (V.ref sc :: rest))) (h : SqL K H a (zs.map V.int)) : SqL K H' a (zs.map V.int) := by
  rcases h with (h | ⟨o, h⟩) | h
  · refine .inl (.inl (e _ _ (ne_of h ht ?_) h))
    intro z
    cases zs <;> simp at z
  · exact .inl (.inr ⟨o, e _ _ (ne_of h ht (by intro z; cases z)) h⟩)
  · exact .inr h
theorem but_upd {H : Hp} {t : Addr} {o : HO} : SameBut t H (upd H t o) := fun b u n h => by rw [upd_ne n]; exact h
theorem dp_ints {K : PySem.W.Frag} {H : Hp} : ∀ (xs : List Int), DpAll K H (xs.map V.int) (xs.map PyData.int)
  | [] => .nil
  | x :: xs => .cons (.int x) (dp_ints xs)
theorem lay_ints : ∀ xs : List Int, PyData.canLayAll0 (xs.map PyData.int) = true
  | [] => rfl
  | x :: xs => by
    rw [List.map_cons, PyData.canLayAll0, lay_ints xs]
    rfl
theorem dep_ints : ∀ xs : List Int, PyData.depthAll (xs.map PyData.int) = 0
  | [] => rfl
  | x :: xs => by
    rw [List.map_cons, PyData.depthAll, dep_ints xs]
    rfl
theorem sh_ints (xs : List Int) : SeqAt.shaped (.list (xs.map PyData.int)) = true := by
  unfold SeqAt.shaped
  rw [PyData.canLay0, lay_ints, PyData.depth, dep_ints]
  rfl
/-- the pool of letters -/
def pool : List Nat := [113, 122, 97, 121, 98, 120, 99, 119, 100, 118, 109, 101, 117, 102, 116, 103, 115, 104, 114, 105, 110, 112, 107]
theorem pool_eq : ("qzaybxcwdvmeuftgshrinpk" : Str).cps.toList = pool := by decide +kernel
def sgn (a st k : Nat) : Nat := pool.getD ((a + k * st) % 23) 0
theorem pool_nd : pool.Nodup := by decide
theorem pool_low : ∀ c ∈ pool, lower26 c := by unfold lower26; decide
theorem sgn_get (a st k : Nat) : ∃ h : (a + k * st) % 23 < pool.length, sgn a st k = pool[(a + k * st) % 23] := by
  have hlt : (a + k * st) % 23 < pool.length := Nat.mod_lt _ (by decide)
  refine ⟨hlt, ?_⟩
  unfold sgn
  rw [List.getD_eq_getElem?_getD, List.getElem?_eq_getElem hlt]
  rfl
theorem sgn_low (a st k : Nat) : lower26 (sgn a st k) := by
  obtain ⟨h, e⟩ := sgn_get a st k
  rw [e]
  exact pool_low _ (List.getElem_mem h)
theorem sgn_ne {a st i j : Nat} (h1 : 1 ≤ st) (h2 : st ≤ 22) (hij : i < j) (hj : j < 4) : sgn a st i ≠ sgn a st j := by
  obtain ⟨k1, e1⟩ := sgn_get a st i
  obtain ⟨k2, e2⟩ := sgn_get a st j
  rw [e1, e2]
  intro z
  have := (List.getElem_inj pool_nd).mp z
  have hi3 : i = 0 ∨ i = 1 ∨ i = 2 := by omega
  have hj3 : j = 1 ∨ j = 2 ∨ j = 3 := by omega
  rcases hi3 with rfl | rfl | rfl <;> rcases hj3 with rfl | rfl | rfl <;> omega
theorem sgn_nd {a st n : Nat} (h1 : 1 ≤ st) (h2 : st ≤ 22) (hn : n ≤ 4) : ((List.range n).map (sgn a st)).Nodup := by
  refine List.pairwise_map.mpr (List.pairwise_iff_getElem.mpr fun i j hi hj hij => ?_)
  rw [List.length_range] at hi hj
  rw [List.getElem_range, List.getElem_range]
  exact sgn_ne h1 h2 hij (by omega)
theorem Tp.upd {K : PySem.W.Frag} {H H1 : Hp} {t sc D : Addr} {xs : List Int} {b0 b : Nat} {o : HO} (h0 : Tp K H t sc xs b0) (h : Tp K H1 t sc xs b) (e : SameBut t H (upd H1 D o)) (hD : t ≠ D) : Tp K (upd H1 D o) t sc xs b := by
  obtain ⟨rest, hr⟩ := h0.at
  obtain ⟨_, _, _, _, g2, _⟩ := h0
  obtain ⟨sp, g, c, h1, h2, h3, h4, h5⟩ := h
  exact ⟨sp, g, c, by rw [upd_ne hD]; exact h1, sqI_but e hr g2, h3, h4, h5⟩
def spTape (K : PySem.W.Frag) : Sp := fun vs H Q _ => ∃ (a : Addr) (ns : List Int), vs = [.ref a] ∧ SqL K H a (ns.map V.int) ∧ ∀ H' t sc xs, Same H H' → Tp K H' t sc xs 0 → Q (.ref t) H'
def spDraw (K : PySem.W.Frag) : Sp := fun vs H Q _ => ∃ (t sc : Addr) (xs : List Int) (n b : Nat), vs = [.ref t, .int (n : Nat)] ∧ 1 ≤ n ∧ n ≤ 1000 ∧ Tp K H t sc xs b ∧ b ≤ 990 ∧ ∀ H' (j : Nat), j < n → SameBut t H H' → Tp K H' t sc xs (b + 1) → Q (.int (j : Nat)) H'
def spPick (K : PySem.W.Frag) : Sp := fun vs H Q _ => ∃ (t sc a : Addr) (xs : List Int) (zs : List Str) (b : Nat), vs = [.ref t, .ref a] ∧ SqL K H a (zs.map V.str) ∧ zs ≠ [] ∧ zs.length ≤ 1000 ∧ Tp K H t sc xs b ∧ b ≤ 990 ∧ ∀ H' z, z ∈ zs → SameBut t H H' → Tp K H' t sc xs (b + 1) → Q (.str z) H'
def spSigns (K : PySem.W.Frag) : Sp := fun vs H Q _ => ∃ (t sc : Addr) (xs : List Int) (n b : Nat), vs = [.ref t, .int (n : Nat)] ∧ n ≤ 4 ∧ Tp K H t sc xs b ∧ b ≤ 980 ∧
  ∀ H' p (cs : List Nat), cs.Nodup → cs.length = n → (∀ c ∈ cs, lower26 c) → SameBut t H H' → Tp K H' t sc xs (b + 2) → H' p = some (.lst (cs.map lv)) → Q (.ref p) H'
section
variable {P : Program} {w : World} {K : PySem.W.Frag} {mg : Str → Option Value} {base : Heap} (B : Bt K mg)
theorem h_law_tape (D : Def K mg "_law_tape" s_law_tape [] []) : Has P w K mg base "_law_tape" [] 1 (spTape K) := by
  refine has_of D sc_law_tape (fun vs H Q E h => by obtain ⟨_, _, rfl, _⟩ := h; rfl) (fun _ _ _ _ _ _ us hl => match us, hl with | [_], _ => rfl) fun f cdv A outer s H vs Q E hr h => ?_
  obtain ⟨a, ns, rfl, hS, q⟩ := h
  refine ⟨_, (pss_one (ps_ret (pe_lst (pa_cons (pe_slice sl_list (pv 0) po_none (po_some pe_int)) (pa_cons pe_int (pa_cons pe_int (pa_cons pe_int pa_nil))))))), ?_⟩
  refine ⟨_, rfl, _, rfl, a, _, rfl, hS, fun sc nsc => ?_⟩
  refine ⟨sl2 (by show (4 : Nat) ≤ 5000; decide), fun t nt => q _ t sc (ns.take 63) ((same_upd nsc).trans (same_upd nt)) ⟨0, 0, 0, upd_same, .of ?_, ?_, Int.le_refl _, Nat.le_refl _⟩⟩
  · rw [upd_ne (ne_of_none upd_same nt), upd_same, show (some 63 : Option Int) = some ((63 : Nat) : Int) from rfl, cutV_to, List.map_take]
  · rw [List.length_take]
    omega
include B
theorem h_law_draw (D : Def K mg "_law_draw" s_law_draw [] []) : Has P w K mg base "_law_draw" [] 1 (spDraw K) := by
  refine has_of D sc_law_draw (fun vs H Q E h => by obtain ⟨_, _, _, _, _, rfl, _⟩ := h; rfl) (fun _ _ _ _ _ _ us hl => match us, hl with | [_, _], _ => rfl) fun f cdv A outer s H vs Q E hr h => ?_
  obtain ⟨t, sc, xs, n, b, rfl, hn1, hn2, ⟨sp, g, c, ht, hsc, hxs, hg, hc⟩, hb, q⟩ := h
  refine ⟨_, (pss_cons (ps_asg (pe_op op_add (pe_ix ix_list (pv 0) pe_int (fun _ _ => rfl)) pe_int) (pg_sub (pv 0) pe_int set_list))
      (pss_cons (ps_if (pt_cmpR op_gt (pe_ix ix_list (pv 0) pe_int (fun _ _ => rfl)) pe_int (nomark _)) (pss_cons (ps_set (i := 2) sc_law_draw.nd rfl (Or.inl rfl) (pe_op op_mod (pe_callTy call_int1 rfl B.int_ (by decide +kernel) (pa_cons (pe_ix ix_list (pv 0) pe_int (fun _ _ => rfl)) pa_nil)) (pv 1)))
      (pss_cons (ps_asg (pe_op op_fdiv (pe_ix ix_list (pv 0) pe_int (fun _ _ => rfl)) (pv 1)) (pg_sub (pv 0) pe_int set_list))
      (pss_one (ps_ret (pv 2))))) pss_nil)
      (pss_cons (ps_set (i := 3) sc_law_draw.nd rfl (Or.inl rfl) (pe_ix ix_list (pv 0) pe_int (fun _ _ => rfl)))
      (pss_cons (ps_asg (pe_op op_add (pv 3) pe_int) (pg_sub (pv 0) pe_int set_list))
      (pss_cons (ps_set (i := 4) sc_law_draw.nd rfl (Or.inl rfl) (pe_ifExp (pt_cmpR (op_neD hr.units) (pe_ix ix_list (pv 0) pe_int (fun _ _ => rfl)) (pe_lst pa_nil) (nomark _)) (pe_ix ix_list (pe_ix ix_list (pv 0) pe_int (fun _ _ => rfl)) (pe_op op_mod (pe_callTy call_int1 rfl B.int_ (by decide +kernel) (pa_cons (pv 3) pa_nil)) (pe_callB call_len_seq rfl B.len_ (by decide +kernel) (pa_cons (pe_ix ix_list (pv 0) pe_int (fun _ _ => rfl)) pa_nil))) (fun _ _ => rfl)) pe_int))
      (pss_cons (ps_if (PW.pt (pw_and (pt_cmpR op_ge (pv 4) (pe_op op_pow pe_int pe_int) (nomark _)) (pw_and1 (pt_cmpR op_lt (pv 3) (pe_callB call_len_seq rfl B.len_ (by decide +kernel) (pa_cons (pe_ix ix_list (pv 0) pe_int (fun _ _ => rfl)) pa_nil)) (nomark _))))) (pss_cons (ps_asg (pe_op op_fdiv (pv 4) (pv 1)) (pg_sub (pv 0) pe_int set_list))
      (pss_one (ps_ret (pe_op op_mod (pe_callTy call_int1 rfl B.int_ (by decide +kernel) (pa_cons (pv 4) pa_nil)) (pv 1))))) pss_nil)
      (pss_cons (ps_set (i := 5) sc_law_draw.nd rfl (Or.inl rfl) (pe_op op_mod (pe_callTy call_int1 rfl B.int_ (by decide +kernel) (pa_cons (pe_op op_pow (pe_op op_add (pe_op op_add (pe_op op_mod (pe_callTy call_int1 rfl B.int_ (by decide +kernel) (pa_cons (pv 4) pa_nil)) pe_int) (pe_op op_mul pe_int (pe_ix ix_list (pv 0) pe_int (fun _ _ => rfl)))) pe_int) pe_int) pa_nil)) pe_int))
      (pss_cons (ps_set (i := 5) sc_law_draw.nd rfl (Or.inl rfl) (pe_op op_mod (pe_callTy call_int1 rfl B.int_ (by decide +kernel) (pa_cons (pe_op op_pow (pe_op op_add (pe_op op_add (pv 5) (pe_op op_mul (pe_op op_mul pe_int (pe_ix ix_list (pv 0) pe_int (fun _ _ => rfl))) (pe_ix ix_list (pv 0) pe_int (fun _ _ => rfl)))) pe_int) pe_int) pa_nil)) pe_int))
      (pss_one (ps_ret (pe_op op_mod (pe_callTy call_int1 rfl B.int_ (by decide +kernel) (pa_cons (pe_op op_fdiv (pv 5) pe_int) pa_nil)) (pv 1)))))))))))), ?_⟩
  have n0 : (0 : Int) < (n : Nat) := by omega
  refine ⟨_, rfl, t, _, 3, _, rfl, rfl, .of ht, rfl, _, _, rfl, rfl, ?_⟩
  refine ⟨_, rfl, t, _, 3, 3, rfl, rfl, ht, rfl, ?_⟩
  have ht1 : (upd H t (.lst [.ref sc, .int (sp : Nat), .int g, .int ((c : Int) + 1)])) t = some (.lst [.ref sc, .int (sp : Nat), .int g, .int ((c : Int) + 1)]) := upd_same
  have b1 : SameBut t H (upd H t (.lst [.ref sc, .int (sp : Nat), .int g, .int ((c : Int) + 1)])) := but_upd
  have hsc1 := sqI_but b1 ht hsc
  refine ⟨_, rfl, t, _, 2, _, rfl, rfl, .of ht1, rfl, _, _, rfl, rfl, _, rfl, ?_⟩
  by_cases hg0 : 0 < g
  · refine iteD hg0 ?_
    refine ⟨_, rfl, t, _, 2, _, rfl, rfl, .of ht1, rfl, .inl ⟨_, rfl, _, rfl, _, _, rfl, rfl, n0, ?_⟩⟩
    refine ⟨_, rfl, t, _, 2, _, rfl, rfl, .of ht1, rfl, _, rfl, _, _, rfl, rfl, ⟨n0, by omega⟩, ?_⟩
    refine ⟨_, rfl, t, _, 2, 2, rfl, rfl, ht1, rfl, ?_⟩
    refine ⟨_, rfl, ?_⟩
    have hm := Int.emod_nonneg g (by omega : ((n : Nat) : Int) ≠ 0)
    have hl := Int.emod_lt_of_pos g n0
    have hq := q (upd (upd H t (.lst [.ref sc, .int (sp : Nat), .int g, .int ((c : Int) + 1)])) t (.lst [.ref sc, .int (sp : Nat), .int (g / (n : Nat)), .int ((c : Int) + 1)])) (g % (n : Nat)).toNat (by omega) (b1.trans but_upd)
      ⟨sp, g / (n : Nat), c + 1, by rw [upd_same, Int.natCast_add]; rfl, sqI_but but_upd ht1 hsc1, hxs, Int.ediv_nonneg hg (by omega), by omega⟩
    rw [Int.toNat_of_nonneg hm] at hq
    exact hq
  · refine iteDN hg0 ?_
    refine ⟨_, rfl, t, _, 1, _, rfl, rfl, .of ht1, rfl, ?_⟩
    refine ⟨_, rfl, _, _, rfl, rfl, ?_⟩
    refine ⟨_, rfl, t, _, 1, 1, rfl, rfl, ht1, rfl, ?_⟩
    have ht2 : (upd (upd H t (.lst [.ref sc, .int (sp : Nat), .int g, .int ((c : Int) + 1)])) t (.lst [.ref sc, .int ((sp : Int) + 1), .int g, .int ((c : Int) + 1)])) t = some (.lst [.ref sc, .int ((sp : Int) + 1), .int g, .int ((c : Int) + 1)]) := upd_same
    have b2 : SameBut t H (upd (upd H t (.lst [.ref sc, .int (sp : Nat), .int g, .int ((c : Int) + 1)])) t (.lst [.ref sc, .int ((sp : Int) + 1), .int g, .int ((c : Int) + 1)])) := b1.trans but_upd
    have hsc2 := sqI_but b2 ht hsc
    generalize hH2 : (upd (upd H t (.lst [.ref sc, .int (sp : Nat), .int g, .int ((c : Int) + 1)])) t (.lst [.ref sc, .int ((sp : Int) + 1), .int g, .int ((c : Int) + 1)])) = H2 at ht2 b2 hsc2
    rw [show (upd (upd H t (HO.lst ([V.ref sc, V.int (sp : Nat), V.int g, V.int (c : Nat)].set 3 (V.int ((c : Int) + 1))))) t (HO.lst ([V.ref sc, V.int (sp : Nat), V.int g, V.int ((c : Int) + 1)].set 1 (V.int ((sp : Int) + 1))))) = H2 from hH2]
    have fin : ∀ (H3 : Hp) (g' z : Int), 0 ≤ g' → SameBut t H2 H3 → H3 t = some (.lst [.ref sc, .int ((sp : Int) + 1), .int g', .int ((c : Int) + 1)]) → Q (.int (z % (n : Nat))) H3 := fun H3 g' z hg' e3 h3 => by
      have hm := Int.emod_nonneg z (by omega : ((n : Nat) : Int) ≠ 0)
      have hl := Int.emod_lt_of_pos z n0
      have hq := q H3 (z % (n : Nat)).toNat (by omega) (b2.trans e3) ⟨sp + 1, g', c + 1, by rw [h3, Int.natCast_add, Int.natCast_add]; rfl, sqI_but e3 ht2 hsc2, hxs, hg', by omega⟩
      rw [Int.toNat_of_nonneg hm] at hq
      exact hq
    refine ⟨_, rfl, t, _, 0, _, rfl, rfl, .of ht2, rfl, sl2 (Nat.zero_le _), fun ae nae => ?_⟩
    have eA := same_upd (o := .lst []) nae
    have ht3 := eA _ _ ht2
    have hsc3 := eA.seq hsc2
    have b3 : SameBut t H2 (upd H2 ae (.lst [])) := .of eA
    have hE : (upd H2 ae (.lst [])) ae = some (.lst []) := upd_same
    generalize upd H2 ae (.lst []) = H3 at eA ht3 hsc3 b3 hE
    refine ⟨.list (xs.map PyData.int), .list [], .lst hsc3 (dp_ints xs), .lst (.of hE) .nil, sh_ints xs, rfl, _, rfl, ?_⟩
    rw [show PyData.eqv (.list (xs.map PyData.int)) (.list []) = decide (xs = []) by cases xs <;> rfl]
    have hc2 : ((c : Int) + 1) ≤ 1000 := by omega
    by_cases hx : xs = []
    refine iteNS hx ?_
    let ce : Int := 211
    rotate_left
    refine iteNT hx ?_
    have hlen : 0 < xs.length := List.length_pos_iff.mpr hx
    refine ⟨_, rfl, t, _, 0, _, rfl, rfl, .of ht3, rfl, _, rfl, .inl ⟨_, rfl, _, rfl, t, _, 0, _, rfl, rfl, .of ht3, rfl, sc, _, rfl, .inl hsc3, _, _, rfl, rfl, (by rw [List.length_map]; omega), ?_⟩⟩
    have hlt : sp % xs.length < xs.length := Nat.mod_lt _ hlen
    have hat : atI (xs.map V.int) ((sp : Int) % (((xs.map V.int).length : Nat) : Int)) = some (.int xs[sp % xs.length]) := by
      rw [List.length_map, ← Int.natCast_emod]
      exact atI_nat (by rw [List.getElem?_map, List.getElem?_eq_getElem hlt]; rfl)
    refine ⟨sc, _, _, .int xs[sp % xs.length], rfl, rfl, hsc3, hat, ?_⟩
    generalize xs[sp % xs.length] = ce
    all_goals
      refine ⟨_, rfl, _, _, rfl, rfl, ⟨by decide, by decide, by decide⟩, _, _, rfl, rfl, _, rfl, ?_⟩
      by_cases hbig : (10 : Int) ^ (18 : Int).toNat ≤ ce
    all_goals first
      | refine iteDN hbig ?_
      | (refine iteD hbig ?_
         refine ⟨_, rfl, _, rfl, t, _, 0, _, rfl, rfl, .of ht3, rfl, sc, _, rfl, .inl hsc3, _, _, rfl, rfl, _, rfl, ?_⟩
         by_cases hsp : (sp : Int) < (((xs.map V.int).length : Nat) : Int)
         rotate_left
         refine iteDN hsp ?_
         rotate_left
         refine iteD hsp ?_
         refine ⟨_, rfl, _, rfl, _, _, rfl, rfl, ⟨n0, by omega⟩, ?_⟩
         refine ⟨_, rfl, t, _, 2, 2, rfl, rfl, ht3, rfl, ?_⟩
         refine ⟨_, rfl, .inl ⟨_, rfl, _, rfl, _, _, rfl, rfl, n0, ?_⟩⟩
         exact fin _ (ce / (n : Nat)) ce (Int.ediv_nonneg (Int.le_trans (by decide) hbig) (by omega)) (b3.trans but_upd) upd_same)
    all_goals
      have hm0 := Int.emod_nonneg ce (by decide : (1999999943 : Int) ≠ 0)
      have hm1 := Int.emod_lt_of_pos ce (by decide : (0 : Int) < 1999999943)
      refine ⟨_, rfl, .inl ⟨_, rfl, _, _, rfl, rfl, (by show (0 : Int) < 1999999943; decide), ?_⟩⟩
      refine ⟨_, rfl, t, _, 3, _, rfl, rfl, .of ht3, rfl, _, _, rfl, rfl, .inl ⟨by decide, by decide⟩, _, _, rfl, rfl, _, _, rfl, rfl, ?_⟩
      refine ⟨_, _, rfl, rfl, ⟨by decide, by decide, ?_⟩, .inl ⟨_, rfl, _, _, rfl, rfl, (by show (0 : Int) < 2147483423; decide), ?_⟩⟩
      · show (ce % 1999999943 + 48409 * ((c : Int) + 1) + 383).natAbs < 2 ^ 64
        omega
      have hq0 := Int.emod_nonneg ((ce % 1999999943 + 48409 * ((c : Int) + 1) + 383) ^ (3 : Int).toNat) (by decide : (2147483423 : Int) ≠ 0)
      have hq1 := Int.emod_lt_of_pos ((ce % 1999999943 + 48409 * ((c : Int) + 1) + 383) ^ (3 : Int).toNat) (by decide : (0 : Int) < 2147483423)
      have hcc : ((c : Int) + 1) * ((c : Int) + 1) ≤ 1000 * 1000 := Int.mul_le_mul hc2 hc2 (by omega) (by decide)
      have hcc0 : 0 ≤ ((c : Int) + 1) * ((c : Int) + 1) := Int.mul_nonneg (by omega) (by omega)
      refine ⟨_, rfl, _, rfl, t, _, 3, _, rfl, rfl, .of ht3, rfl, _, _, rfl, rfl, .inl ⟨by decide, by decide⟩, _, rfl, t, _, 3, _, rfl, rfl, .of ht3, rfl, _, _, rfl, rfl, .inl ⟨?_, ?_⟩, _, _, rfl, rfl, _, _, rfl, rfl, ?_⟩
      · show -(2 ^ 64) < (8389 : Int) * ((c : Int) + 1)
        omega
      · show (8389 : Int) * ((c : Int) + 1) < 2 ^ 64
        omega
      refine ⟨_, _, rfl, rfl, ⟨by decide, by decide, ?_⟩, .inl ⟨_, rfl, _, _, rfl, rfl, (by show (0 : Int) < 2147483477; decide), ?_⟩⟩
      · show ((ce % 1999999943 + 48409 * ((c : Int) + 1) + 383) ^ (3 : Int).toNat % 2147483423 + 8389 * ((c : Int) + 1) * ((c : Int) + 1) + 211).natAbs < 2 ^ 64
        generalize ((ce % 1999999943 + 48409 * ((c : Int) + 1) + 383) ^ (3 : Int).toNat) % 2147483423 = m1 at hq0 hq1 ⊢
        rw [Int.mul_assoc]
        omega
      refine ⟨_, rfl, _, _, rfl, rfl, ⟨by decide, by decide⟩, .inl ⟨_, rfl, _, rfl, _, _, rfl, rfl, n0, ?_⟩⟩
      exact fin H3 g _ hg b3 ht3
theorem h_law_pick (D : Def K mg "_law_pick" s_law_pick [] []) (h__law_draw : Has P w K mg base "_law_draw" [] 1 (spDraw K)) : Has P w K mg base "_law_pick" [] 2 (spPick K) := by
  refine has_of D sc_law_pick (fun vs H Q E h => by obtain ⟨_, _, _, _, _, _, rfl, _⟩ := h; rfl) (fun _ _ _ _ _ _ us hl => match us, hl with | [_, _], _ => rfl) fun f cdv A outer s H vs Q E hr h => ?_
  obtain ⟨t, sc, a, xs, zs, b, rfl, hS, hne, hz, hT, hb, q⟩ := h
  refine ⟨_, (pss_one (ps_ret (pe_ix ix_list (pv 1) (pe_has h__law_draw (hr.mono (by decide)) rfl (pa_cons (pv 0) (pa_cons (pe_callB call_len_seq rfl B.len_ (by decide +kernel) (pa_cons (pv 1) pa_nil)) pa_nil))) (fun _ _ => rfl)))), ?_⟩
  have hpos : 1 ≤ zs.length := List.length_pos_iff.mpr hne
  refine ⟨_, rfl, _, rfl, _, rfl, a, _, rfl, .inl hS, t, sc, xs, zs.length, b, by rw [List.length_map]; rfl, hpos, hz, hT, hb, fun H1 j hj e1 hT1 => ?_⟩
  obtain ⟨rest, hsc⟩ := hT.at
  exact ⟨a, _, _, _, rfl, rfl, sqL_but e1 hsc hS, atI_nat (by rw [List.getElem?_map, List.getElem?_eq_getElem hj]; rfl), q H1 _ (List.getElem_mem hj) e1 hT1⟩
theorem h_law_signs (D : Def K mg "_law_signs" s_law_signs [] []) (h__law_draw : Has P w K mg base "_law_draw" [] 1 (spDraw K)) : Has P w K mg base "_law_signs" [] 2 (spSigns K) := by
  refine has_of D sc_law_signs (fun vs H Q E h => by obtain ⟨_, _, _, _, _, rfl, _⟩ := h; rfl) (fun _ _ _ _ _ _ us hl => match us, hl with | [_, _], _ => rfl) fun f cdv A outer s H vs Q E hr h => ?_
  obtain ⟨t, sc, xs, n, b, rfl, hn, hT, hb, q⟩ := h
  refine ⟨_, (pss_cons (ps_asg (pe_tup (pa_cons pe_str (pa_cons (pe_has h__law_draw (hr.mono (by decide)) rfl (pa_cons (pv 0) (pa_cons pe_int pa_nil))) (pa_cons (pe_op op_add pe_int (pe_has h__law_draw (hr.mono (by decide)) rfl (pa_cons (pv 0) (pa_cons pe_int pa_nil)))) pa_nil)))) (pg_tup rfl (pgs_cons (pg_name (i := 2) sc_law_signs.nd rfl (Or.inr rfl)) (pgs_cons (pg_name (i := 3) sc_law_signs.nd rfl (Or.inr rfl)) (pgs_cons (pg_name (i := 4) sc_law_signs.nd rfl (Or.inr rfl)) pgs_nil)))))
      (pss_one (ps_ret (pe_lc (own := [("_law_k", 5)]) rfl sc_law_signs.nd (pi_range1 rfl B.range_ (pa_cons (pv 1) pa_nil)) (blkOk_by (N := N_law_signs) (sc := defScope s_law_signs) (by decide +kernel)) (fun _ _ _ _ _ => (pg_name (i := 5) sc_law_signs.nd rfl (Or.inl rfl) (.inr rfl))) (fun _ _ _ _ _ => pts_nil) (fun _ _ _ _ _ => (pe_ix ix_str (pv 2) (pe_op op_mod (pe_callTy call_int1 rfl B.int_ (by decide +kernel) (pa_cons (pe_op op_add (pv 3) (pe_op op_mul (pv 5) (pv 4))) pa_nil)) pe_int) (fun _ _ => rfl))))))), ?_⟩
  refine ⟨_, rfl, t, sc, xs, 23, b, rfl, by decide, by decide, hT, by omega, fun H1 j1 hj1 e1 hT1 => ?_⟩
  refine ⟨_, rfl, t, sc, xs, 22, b + 1, rfl, by decide, by decide, hT1, by omega, fun H2 j2 hj2 e2 hT2 => ?_⟩
  refine ⟨_, _, rfl, rfl, sl2 (by show (3 : Nat) ≤ 5000; decide), fun T nT => ?_⟩
  refine ⟨T, _, rfl, .of upd_same, rfl, _, _, rfl, _, _, rfl, _, _, rfl, rfl, ?_⟩
  have e3 := same_upd (o := .tup [.str "qzaybxcwdvmeuftgshrinpk", .int (j1 : Nat), .int (1 + (j2 : Nat))]) nT
  refine ⟨_, rfl, ((n : Nat) : Int), rfl, by omega, by omega, fun Dk nD => ?_⟩
  rw [show (((n : Nat) : Int)).toNat = n by omega]
  refine lc_it walk_range (LcP _ Dk fun i => ((List.range i).map (sgn j1 (1 + j2))).map lv) (.start nD rfl) (fun _ _ _ _ => trivial) (fun i v H4 H5 hi p y => ?_) fun H4 p => ?_
  · obtain ⟨rfl, rfl⟩ := y
    have hidx : ((j1 : Int) + (0 + (i : Int)) * (1 + (j2 : Int))) % 23 = (((j1 + i * (1 + j2)) % 23 : Nat) : Int) := by
      rw [Int.zero_add, Int.natCast_emod, Int.natCast_add, Int.natCast_mul, Int.natCast_add]
      rfl
    have hlt : (j1 + i * (1 + j2)) % 23 < 23 := Nat.mod_lt _ (by decide)
    refine ⟨rfl, _, rfl, _, rfl, _, rfl, _, rfl, _, _, rfl, rfl, .inl ⟨by omega, by omega⟩, _, _, rfl, rfl, .inl ⟨_, rfl, _, _, rfl, rfl, (by show (0 : Int) < 23; decide), ?_⟩⟩
    refine ⟨_, _, sgn j1 (1 + j2) i, rfl, rfl, sl2 (by show (23 : Nat) ≤ 5000; decide), ?_, ?_⟩
    · show atI _ (((j1 : Int) + (0 + (i : Int)) * (1 + (j2 : Int))) % 23) = _
      rw [hidx]
      refine atI_nat ?_
      rw [pool_eq]
      unfold sgn
      rw [List.getD_eq_getElem?_getD, List.getElem?_eq_getElem (show _ < pool.length from hlt)]
      rfl
    · refine p.add nD (.refl _) (by rw [List.range_succ, List.map_append, List.map_append]; rfl) ?_
      rw [List.length_map, List.length_map, List.length_range]
      omega
  · have b13 : SameBut t H H4 := (e1.trans e2).trans (.of (e3.trans p.1))
    refine q H4 Dk ((List.range n).map (sgn j1 (1 + j2))) (sgn_nd (by omega) (by omega) hn) (by rw [List.length_map, List.length_range]) (fun c hc => ?_) b13 (hT2.ext (e3.trans p.1)) p.2
    obtain ⟨k, _, rfl⟩ := List.mem_map.mp hc
    exact sgn_low _ _ _
end
end Fk

set_option Elab.async false
set_option linter.all false
set_option maxRecDepth 100000
set_option maxHeartbeats 4000000
/-! Fk W2: rows, norms, pages, words. -/
namespace Fk
open PySem PySem.Spec PyProof.Rows L2
/-! ### sorted(list of entries) -/
def rSortE (K : PySem.W.Frag) : List V → Hp → VK → Prop := fun vs H Q => ∃ (a : Addr) (us : List V) (Ls : Lts), vs = [V.ref a] ∧ SqL K H a us ∧ DpAll K H us (Ls.map dE) ∧ (names Ls).Nodup ∧
  ∀ (p : Addr) (us' : List V) (L : Lts), H p = none → DpAll K H us' (L.map dE) → L.Perm Ls → (names L).Pairwise (· < ·) → Q (.ref p) (upd H p (.lst us'))
theorem alike_dW : ∀ xs ys : List Nat, PySem.W.alikeAll (xs.map fun c => dW [c]) (ys.map fun c => dW [c]) = true
  | [], _ => by simp [PySem.W.alikeAll]
  | _ :: _, [] => by simp [PySem.W.alikeAll]
  | x :: xs, y :: ys => by
    rw [List.map_cons, List.map_cons, PySem.W.alikeAll, alike_dW xs ys]
    rfl
theorem alike_dE (x y : Nat × List Nat) : PySem.W.alike (dE x) (dE y) = true := by
  unfold dE
  rw [PySem.W.alike, PySem.W.alikeAll, PySem.W.alikeAll, PySem.W.alike, alike_dW]
  rfl
theorem depth_dWs : ∀ xs : List Nat, PyData.depthAll (xs.map fun c => dW [c]) = 0
  | [] => rfl
  | x :: xs => by
    rw [List.map_cons, PyData.depthAll, depth_dWs xs]
    rfl
theorem depth_dE (e : Nat × List Nat) : (dE e).depth = 2 := by
  unfold dE
  rw [PyData.depth, PyData.depthAll, PyData.depthAll, PyData.depth, depth_dWs]
  rfl
theorem lt_dW (x y : Nat) : PySem.W.dataLt (dW [x]) (dW [y]) = decide (x < y) := by
  have h := congrFun (congrFun (PySem.W.dataLe_str (fun c : Nat => tx [c])) y) x
  have h2 : (!PySem.W.dataLt (.str (tx [x])) (.str (tx [y]))) = decide ((tx [y]).cps.toList ≤ (tx [x]).cps.toList) := h
  rw [tx_cps, tx_cps] at h2
  have h3 : decide ([y] ≤ [x]) = !decide (x < y) := by
    by_cases hxy : x < y
    · have : ¬ [y] ≤ [x] := fun z => List.not_lt.mpr z (List.cons_lt_cons_iff.mpr (.inl hxy))
      rw [decide_eq_true hxy, decide_eq_false this]
      rfl
    · have : [y] ≤ [x] := List.not_lt.mp fun z => by
        rcases List.cons_lt_cons_iff.mp z with z | ⟨_, z⟩
        · exact hxy z
        · exact absurd z (List.not_lt_nil _)
      rw [decide_eq_false hxy, decide_eq_true this]
      rfl
  rw [h3] at h2
  have h4 := congrArg (! ·) h2
  simpa [dW] using h4
theorem eqv_dW (x y : Nat) : PyData.eqv (dW [x]) (dW [y]) = decide (x = y) := by
  show (tx [x] == tx [y]) = decide (x = y)
  by_cases h : x = y
  · subst h
    simp
  · rw [decide_eq_false h]
    have : tx [x] ≠ tx [y] := fun z => h (List.cons.inj (tx_inj z)).1
    simpa using this
theorem eqv_dWs : ∀ xs : List Nat, PyData.eqvAll (xs.map fun c => dW [c]) (xs.map fun c => dW [c]) = true
  | [] => rfl
  | x :: xs => by
    rw [List.map_cons, PySem.W.eqv_all_cons, eqv_dWs xs, eqv_dW]
    simp
theorem le_dE {x y : Nat × List Nat} (h : x.1 = y.1 → x = y) : PySem.W.dataLe false dE x y = decide (x.1 ≤ y.1) := by
  rw [PySem.W.dataLe_eq]
  show (!PySem.W.dataLt (dE y) (dE x)) = _
  unfold dE
  rw [PySem.W.dataLt_pair rfl (by rw [PySem.W.alike, alike_dW]), eqv_dW, lt_dW]
  by_cases he : y.1 = x.1
  · have := h he.symm
    subst this
    have e2 : PyData.eqv (.tuple (x.2.map fun c => dW [c])) (.tuple (x.2.map fun c => dW [c])) = true := by
      rw [PyData.eqv]
      exact eqv_dWs x.2
    rw [e2]
    simp
  · rw [if_neg (by simpa using he)]
    by_cases hlt : y.1 < x.1
    · rw [decide_eq_true hlt, decide_eq_false (by omega)]
      rfl
    · rw [decide_eq_false hlt, decide_eq_true (by omega)]
      rfl
theorem each_readsE {X : Cx} {pins : List (Addr × Obj)} {σ : L2.St} {H : Hp} {s : Shared} (I : Inv X pins σ H s) : ∀ (us : List V) (Ls : Lts) (its : List Value), Vals us its → DpAll X.K H us (Ls.map dE) →
    ∃ bs : List (V × (Nat × List Nat)), bs.map (·.1) = us ∧ bs.map (·.2) = Ls ∧ PySem.W.EachIs (fun v (b : V × (Nat × List Nat)) => RelV b.1 v) its bs ∧ PySem.W.EachIs (fun v (b : V × (Nat × List Nat)) => ∃ as, Reads s.heap v (dE b.2) as) its bs ∧ ∀ b ∈ bs, Dp X.K H b.1 (dE b.2)
  | us, [], its, r, h => by
    rw [dpA_nil h] at r ⊢
    cases r
    exact ⟨[], rfl, rfl, .nil, .nil, fun _ h => nomatch h⟩
  | us, e :: Ls, its, r, h => by
    obtain ⟨v, vs, rfl, h1, h2⟩ := dpA_cons h
    cases r with
    | cons r1 r2 =>
      obtain ⟨bs, e1, e2, e3, e4, e5⟩ := each_readsE I vs Ls _ r2 h2
      refine ⟨(v, e) :: bs, by rw [List.map_cons, e1], by rw [List.map_cons, e2], .cons r1 e3, .cons (Dp.reads I _ _ _ h1 r1) e4, fun b hb => ?_⟩
      rcases List.mem_cons.mp hb with rfl | hb
      · exact h1
      · exact e5 b hb
theorem vals_eachE : ∀ {out : List Value} {bs : List (V × (Nat × List Nat))}, PySem.W.EachIs (fun v (b : V × (Nat × List Nat)) => RelV b.1 v) out bs → Vals (bs.map (·.1)) out
  | _, _, .nil => .nil
  | _, _, .cons r t => .cons r (vals_eachE t)
theorem dpA_of {K : PySem.W.Frag} {H : Hp} : ∀ (bs : List (V × (Nat × List Nat))), (∀ b ∈ bs, Dp K H b.1 (dE b.2)) → DpAll K H (bs.map (·.1)) ((bs.map (·.2)).map dE)
  | [], _ => .nil
  | b :: bs, h => .cons (h b List.mem_cons_self) (dpA_of bs fun x hx => h x (List.mem_cons_of_mem _ hx))
theorem nodup_inj {α : Type} {f : α → Nat} : ∀ {l : List α}, (l.map f).Nodup → ∀ a ∈ l, ∀ b ∈ l, f a = f b → a = b
  | [], _, a, ha, _, _, _ => nomatch ha
  | x :: l, nd, a, ha, b, hb, e => by
    rw [List.map_cons, List.nodup_cons] at nd
    rcases List.mem_cons.mp ha with ha1 | ha1 <;> rcases List.mem_cons.mp hb with hb1 | hb1
    · rw [ha1, hb1]
    · exact absurd (by rw [← ha1, e]; exact List.mem_map_of_mem hb1) nd.1
    · exact absurd (by rw [← hb1, ← e]; exact List.mem_map_of_mem ha1) nd.1
    · exact nodup_inj nd.2 a ha1 b hb1 e
theorem cr_sortE {X : Cx} (hu : X.A.units + 64 < cLine) : CallR X (.builtin "sorted") (rSortE X.K) := by
  intro pins s σ H vs ius Q I r h
  obtain ⟨a, us, Ls, rfl, hs, hd, nd, q⟩ := h
  obtain ⟨its, rv, hl, hz⟩ := I.list hs
  rw [Vals.ref1 r]
  obtain ⟨bs, e1, e2, e3, e4, e5⟩ := each_readsE I us Ls its rv hd
  have hbl : bs.length = us.length := by rw [← e1, List.length_map]
  refine PySem.W.sorted_data (vs := its) (bs := bs) (enc := fun b => dE b.2) hl.isList e3 e4 (PySem.W.AllAlike.of fun b b' => alike_dE _ _) (PySem.W.Sortable.tuples fun b => ⟨_, _, rfl⟩) (by rw [hbl]; exact hz) (fun b hb => by rw [depth_dE]; omega) fun out hlen ho => ?_
  obtain ⟨ep, he'⟩ := PyProof.Rows.sortedAll_at s.heap its out.toArray
  have pm : (bs.mergeSort (PySem.W.dataLe false fun b => dE b.2)).Perm bs := List.mergeSort_perm ..
  have hlen' : ((bs.mergeSort (PySem.W.dataLe false fun b => dE b.2)).map (·.1)).length ≤ sizeLine := by rw [List.length_map, pm.length_eq, hbl]; exact hz
  have ndb : (bs.map fun b => b.2.1).Nodup := by
    have : bs.map (fun b => b.2.1) = names Ls := by
      unfold names
      rw [← e2, List.map_map]
      rfl
    rw [this]
    exact nd
  have hsrt : (bs.mergeSort (PySem.W.dataLe false fun b => dE b.2)).map (fun b => b.2.1) = (bs.map fun b => b.2.1).mergeSort (fun x y => decide (x ≤ y)) :=
    List.map_mergeSort fun x hx y hy => le_dE (x := x.2) (y := y.2) fun e => by rw [nodup_inj ndb x hx y hy e]
  refine ⟨.ref _, upd H (s.heap.objs.size + 1) (.lst ((bs.mergeSort (PySem.W.dataLe false fun b => dE b.2)).map (·.1))), I.laid (t' := s.toks) (fun _ _ => PyProof.Rows.sortedAll_old) (Nat.le_succ _) ⟨hlen', out, ep, vals_eachE ho, he'⟩, rfl,
    q _ _ ((bs.mergeSort (PySem.W.dataLe false fun b => dE b.2)).map (·.2)) (I.hok.fresh (Nat.le_succ _)) (dpA_of _ fun b hb => e5 b (pm.mem_iff.mp hb)) (by rw [← e2]; exact pm.map _) ?_⟩
  have e6 : names ((bs.mergeSort (PySem.W.dataLe false fun b => dE b.2)).map (·.2)) = (bs.map fun b => b.2.1).mergeSort (fun x y => decide (x ≤ y)) := by
    unfold names
    rw [List.map_map, ← hsrt]
    rfl
  rw [e6]
  have pw : ((bs.map fun b => b.2.1).mergeSort (fun x y => decide (x ≤ y))).Pairwise (fun x y => decide (x ≤ y) = true) :=
    List.pairwise_mergeSort (le := fun x y => decide (x ≤ y)) (fun a b c h1 h2 => by
      have := of_decide_eq_true h1
      have := of_decide_eq_true h2
      exact decide_eq_true (by omega)) (fun a b => by
      rcases Nat.le_total a b with h | h
      · rw [decide_eq_true h]; rfl
      · rw [decide_eq_true h, Bool.or_true]) _
  have nd2 : ((bs.map fun b => b.2.1).mergeSort (fun x y => decide (x ≤ y))).Nodup := (List.mergeSort_perm ..).nodup_iff.mpr ndb
  exact (pw.and nd2).imp fun ⟨h1, h2⟩ => Nat.lt_of_le_of_ne (of_decide_eq_true h1) h2

/-! ### the law's rows -/
theorem iv_str (cs : List Nat) : cs.map lv = (cs.map fun c => tx [c]).map V.str := by rw [List.map_map]; rfl
theorem idx_nd : ∀ {l : List Nat}, l.Nodup → ∀ (i : Nat) (h : i < l.length), l.idxOf l[i] = i
  | [], _, i, h => absurd h (Nat.not_lt_zero _)
  | x :: l, nd, 0, h => by simp
  | x :: l, nd, i + 1, h => by
    rw [List.nodup_cons] at nd
    have hi : i < l.length := by simpa using h
    have hne : ¬ (x = l[i]) := fun z => nd.1 (by rw [z]; exact List.getElem_mem hi)
    have ih := idx_nd nd.2 i hi
    rw [List.getElem_cons_succ, List.idxOf_cons]
    have : (x == l[i]) = false := by simpa using hne
    rw [this]
    simp [ih]
/-- entries made so far: the letters in order, each with lessers among those ahead of it -/
structure RowOk (cs : List Nat) (Ls : Lts) : Prop where
  nm : names Ls = cs.take Ls.length
  le : Ls.length ≤ cs.length
  ls : ∀ j e, Ls[j]? = some e → e.2.Pairwise (· < ·) ∧ ∀ c ∈ e.2, c ∈ cs.take j
theorem RowOk.nil (cs : List Nat) : RowOk cs [] := ⟨rfl, Nat.zero_le _, fun j e h => by simp at h⟩
theorem RowOk.snoc {cs : List Nat} {Ls : Lts} {c : Nat} {l : List Nat} (h : RowOk cs Ls) (hc : cs[Ls.length]? = some c) (hp : l.Pairwise (· < ·)) (hl : ∀ d ∈ l, d ∈ cs.take Ls.length) : RowOk cs (Ls ++ [(c, l)]) := by
  refine ⟨?_, ?_, fun j e he => ?_⟩
  · show (Ls ++ [(c, l)]).map (·.1) = _
    rw [List.map_append, List.length_append, List.length_singleton, List.take_add_one, hc]
    have := h.nm
    unfold names at this
    rw [this]
    rfl
  · rw [List.length_append, List.length_singleton]
    have := (List.getElem?_eq_some_iff.mp hc).1
    omega
  · rcases Nat.lt_or_ge j Ls.length with hj | hj
    · rw [List.getElem?_append_left hj] at he
      exact h.ls j e he
    · rw [List.getElem?_append_right hj] at he
      have h0 : j - Ls.length = 0 := by
        rcases Nat.eq_zero_or_pos (j - Ls.length) with z | z
        · exact z
        · rw [List.getElem?_eq_none (by simp; omega)] at he
          cases he
      rw [h0] at he
      cases he
      have : j = Ls.length := by omega
      subst this
      exact ⟨hp, hl⟩
theorem RowOk.lok {cs : List Nat} {Ls L : Lts} (h : RowOk cs Ls) (hl : Ls.length = cs.length) (nd : cs.Nodup) (low : ∀ c ∈ cs, lower26 c) (h4 : cs.length ≤ 4) (pm : L.Perm Ls) (asc : (names L).Pairwise (· < ·)) : LOk L ∧ (∀ c, c ∈ cs ↔ c ∈ names L) := by
  have hn : names Ls = cs := by rw [h.nm, hl, List.take_length]
  have hpn : (names L).Perm cs := by
    rw [← hn]
    exact pm.map _
  have at_ : ∀ e ∈ L, ∃ j, Ls[j]? = some e := fun e he => List.getElem?_of_mem (pm.mem_iff.mp he)
  have hidx : ∀ j e, Ls[j]? = some e → cs.idxOf e.1 = j := fun j e he => by
    have h1 : cs[j]? = some e.1 := by
      rw [← hn]
      unfold names
      rw [List.getElem?_map, he]
      rfl
    obtain ⟨hj, h2⟩ := List.getElem?_eq_some_iff.mp h1
    rw [← h2]
    exact idx_nd nd j hj
  refine ⟨⟨fun e he => ?_, asc, fun e he => ?_, ⟨fun c => cs.idxOf c, fun e he c hc => ?_⟩, by rw [pm.length_eq, hl]; exact h4⟩, fun c => (hpn.mem_iff).symm⟩
  · exact low e.1 (hpn.mem_iff.mp (List.mem_map_of_mem he))
  · obtain ⟨j, hj⟩ := at_ e he
    obtain ⟨h1, h2⟩ := h.ls j e hj
    exact ⟨h1, fun c hc => hpn.mem_iff.mpr (List.mem_of_mem_take (h2 c hc))⟩
  · obtain ⟨j, hj⟩ := at_ e he
    obtain ⟨h1, h2⟩ := h.ls j e hj
    show cs.idxOf c < cs.idxOf e.1
    rw [hidx j e hj]
    obtain ⟨k, hk, e2⟩ := List.mem_take_iff_getElem.mp (h2 c hc)
    rw [← e2, idx_nd nd]
    omega
/-- sorted letters -/
theorem sorted_letters {ls : List Nat} {ys : List Str} (nd : ls.Nodup) (pm : ys.Perm (ls.map fun c => tx [c])) (hs : sortedS ys = true) : ∃ l : List Nat, ys = l.map (fun c => tx [c]) ∧ l.Pairwise (· < ·) ∧ l.Perm ls := by
  have hall : ∀ y ∈ ys, ∃ c, y = tx [c] := fun y hy => by
    obtain ⟨c, _, rfl⟩ := List.mem_map.mp (pm.mem_iff.mp hy)
    exact ⟨c, rfl⟩
  have hex : ∀ (zs : List Str), (∀ y ∈ zs, ∃ c, y = tx [c]) → ∃ l : List Nat, zs = l.map fun c => tx [c] := by
    intro zs
    induction zs with
    | nil => exact fun _ => ⟨[], rfl⟩
    | cons z zs ih =>
      intro h
      obtain ⟨c, rfl⟩ := h z List.mem_cons_self
      obtain ⟨l, rfl⟩ := ih fun y hy => h y (List.mem_cons_of_mem _ hy)
      exact ⟨c :: l, rfl⟩
  obtain ⟨l, rfl⟩ := hex ys hall
  have pl : l.Perm ls := by
    have q := pm.map fun s : Str => s.cps.toList.headD 0
    rw [List.map_map, List.map_map] at q
    have e : ((fun s : Str => s.cps.toList.headD 0) ∘ fun c => tx [c]) = fun c : Nat => c := by
      funext c
      show (tx [c]).cps.toList.headD 0 = c
      rw [tx_cps]
      rfl
    rw [e, List.map_id', List.map_id'] at q
    exact q
  have pw := sortedS_pw _ hs
  rw [List.pairwise_map] at pw
  have nl : l.Nodup := pl.nodup_iff.mpr nd
  refine ⟨l, rfl, (pw.and nl).imp (fun {x y} ⟨h1, h2⟩ => ?_), pl⟩
  rw [tx_cps, tx_cps] at h1
  rcases Nat.lt_trichotomy x y with z | z | z
  · exact z
  · exact absurd z h2
  · exact absurd (List.cons_lt_cons_iff.mpr (.inl z)) (List.not_lt.mpr h1)
def spRows (K : PySem.W.Frag) : Sp := fun vs H Q _ => ∃ (t sc a : Addr) (xs : List Int) (cs : List Nat) (b : Nat), vs = [.ref t, .ref a] ∧ SqL K H a (cs.map lv) ∧ cs.Nodup ∧ (∀ c ∈ cs, lower26 c) ∧ cs.length ≤ 4 ∧ Tp K H t sc xs b ∧ b ≤ 950 ∧
  ∀ H' p L, SameBut t H H' → Tp K H' t sc xs (b + 20) → LtAt K H' p L → LOk L → (∀ c, c ∈ cs ↔ c ∈ names L) → Q (.ref p) H'
section
variable {P : Program} {w : World} {K : PySem.W.Frag} {mg : Str → Option Value} {base : Heap} (B : Bt K mg)
include B
theorem h_law_rows (D : Def K mg "_law_rows" s_law_rows [] []) (h__law_draw : Has P w K mg base "_law_draw" [] 1 (spDraw K)) : Has P w K mg base "_law_rows" [] 2 (spRows K) := by
  refine has_of D sc_law_rows (fun vs H Q E h => by obtain ⟨_, _, _, _, _, _, rfl, _⟩ := h; rfl) (fun _ _ _ _ _ _ us hl => match us, hl with | [_, _], _ => rfl) fun f cdv A outer s H vs Q E hr h => ?_
  obtain ⟨t, sc, a, xs, cs, b, rfl, hS, nd, low, h4, hT, hb, q⟩ := h
  refine ⟨_, (pss_cons (ps_par (i := 2) (j := 3) rfl sc_law_rows.nd rfl rfl (by decide) rfl rfl (pa_cons (pe_has h__law_draw (hr.mono (by decide)) rfl (pa_cons (pv 0) (pa_cons pe_int pa_nil))) (pa_cons (pe_lst pa_nil) pa_nil)) rfl)
      (pss_cons (ps_for PassesOwn.never rfl (pi_range1 rfl B.range_ (pa_cons (pe_callB call_len_seq rfl B.len_ (by decide +kernel) (pa_cons (pv 1) pa_nil)) pa_nil)) (pg_name (i := 4) sc_law_rows.nd rfl (Or.inl rfl)) (pss_cons (ps_setLc (i := 5) (own := [("_law_j", 6)]) rfl sc_law_rows.nd rfl rfl (sw_true rfl rfl rfl (by decide +kernel)) (pi_range1 rfl B.range_ (pa_cons (pv 4) pa_nil)) (blkOk_by (N := N_law_rows) (sc := defScope s_law_rows) (by decide +kernel)) (fun _ _ _ _ _ => (pg_name (i := 6) sc_law_rows.nd rfl (Or.inl rfl) (.inr rfl))) (fun _ _ _ _ _ => (pts_one (pt_cmpR op_eq (pe_has h__law_draw (hr.mono (by decide)) rfl (pa_cons (pv 0) (pa_cons pe_int pa_nil))) pe_int (nomark _)))) (fun _ _ _ _ _ => (pe_ix (ix_listK K rfl) (pv 1) (pv 6) (fun _ _ => rfl))))
      (pss_cons (ps_if (pt_cmpR op_lt (pv 2) pe_int (nomark _)) (pss_one (ps_set (i := 5) sc_law_rows.nd rfl (Or.inl rfl) (pe_ifExp (pt_cmpR op_eq (pv 2) pe_int (nomark _)) (pe_slice sl_list (pv 1) po_none (po_some (pv 4))) (pe_slice sl_list (pe_slice sl_list (pv 1) po_none (po_some (pv 4))) (po_some (pe_un un_neg pe_int)) po_none)))) pss_nil)
      (pss_one (ps_expr (pe_bm PySem.F.plainAttrs_list PySem.F.slot_list_append PySem.F.type_list_append mt_append (pv 3) (pa_cons (pe_tup (pa_cons (pe_ix ix_list (pv 1) (pv 4) (fun _ _ => rfl)) (pa_cons (pe_tupleOf rfl B.tuple_ (pe_callB cr_sortedS rfl B.sorted_ (by decide +kernel) (pa_cons (pe_ifExp (pt_cmpR op_lt (pv 2) pe_int (nomark _)) (pv 5) (pe_lst pa_nil)) pa_nil))) pa_nil))) pa_nil)))))))
      (pss_one (ps_ret (pe_tuplePl rfl B.tuple_ (pe_callB (cr_sortE hr.units) rfl B.sorted_ (by decide +kernel) (pa_cons (pv 3) pa_nil))))))), ?_⟩
  refine ⟨_, rfl, t, sc, xs, 5, b, rfl, by decide, by decide, hT, by omega, fun H1 way hw e1 hT1 => ?_⟩
  obtain ⟨rest, hrest⟩ := hT.at
  have hS1 : SqL K H1 a (cs.map lv) := by
    rw [iv_str] at hS ⊢
    exact sqL_but e1 hrest hS
  refine ⟨by decide, fun pr npr => ⟨_, _, rfl, ?_⟩⟩
  have e2 := same_upd (o := .lst []) npr
  have hpt : pr ≠ t := by
    obtain ⟨r1, h1⟩ := hT1.at
    exact (ne_of_none h1 npr).symm
  have hpr0 : H pr = none := by
    cases hh : H pr with
    | none => rfl
    | some o =>
      rw [e1 pr o hpt hh] at npr
      cases npr
  refine ⟨_, rfl, a, _, rfl, .inl (e2.seq hS1), _, rfl, by rw [List.length_map]; omega, by rw [List.length_map]; omega, ?_⟩
  rw [show ((((cs.map lv).length : Nat) : Int)).toNat = cs.length by rw [List.length_map]; omega]
  refine for_it walk_range (fun i σ H3 => ∃ (v4 v5 : Option V) (us : List V) (Ls : Lts), σ = [some (.ref t), some (.ref a), some (.int (way : Nat)), some (.ref pr), v4, v5, none] ∧ SameBut t H H3 ∧ Tp K H3 t sc xs (b + 1 + 4 * i) ∧ H3 pr = some (.lst us) ∧ DpAll K H3 us (Ls.map dE) ∧ RowOk cs Ls ∧ Ls.length = i)
    ⟨_, _, [], [], rfl, e1.trans (.of e2), hT1.ext e2, upd_same, .nil, .nil cs, rfl⟩ (fun _ _ _ _ _ => trivial) (fun i v σ H3 H4 hi p y => ?_) fun σ H3 p => ?_
  · obtain ⟨v4, v5, us, Ls, rfl, b3, hT3, hpr3, hA3, hR, hLi⟩ := p
    obtain ⟨rfl, rfl⟩ := y
    have hul : us.length = i := by rw [dpA_len hA3, List.length_map, hLi]
    obtain ⟨c, hci⟩ : ∃ c, cs[i]? = some c := ⟨cs[i], List.getElem?_eq_getElem hi⟩
    have hat : atI (cs.map lv) ((0 : Int) + (i : Nat)) = some (lv c) := by
      rw [Int.zero_add]
      exact atI_nat (by rw [List.getElem?_map, hci]; rfl)
    have sqa : ∀ {H' : Hp}, SameBut t H H' → SqL K H' a (cs.map lv) := fun e => by
      rw [iv_str] at hS ⊢
      exact sqL_but e hrest hS
    refine ⟨_, rfl, _, rfl, by omega, by omega, ?_⟩
    rw [show ((0 : Int) + (i : Nat)).toNat = i by omega]
    intro Dk nD
    have hDt : Dk ≠ t := by
      obtain ⟨r1, h1⟩ := hT3.at
      exact (ne_of_none h1 nD).symm
    have hD0 : H Dk = none := by
      cases hh : H Dk with
      | none => rfl
      | some o =>
        rw [b3 Dk o hDt hh] at nD
        cases nD
    refine lc_it walk_range (fun j H5 => SameBut t H4 H5 ∧ Tp K H5 t sc xs (b + 1 + 4 * i + j) ∧ ∃ ls : List Nat, H5 Dk = some (.lst (ls.map lv)) ∧ ls.Sublist (cs.take j)) ⟨.of (same_upd nD), hT3.ext (same_upd nD), [], upd_same, List.nil_sublist _⟩ (fun _ _ _ _ => trivial) (fun j v H5 H6 hj p5 y => ?_) fun H5 p5 => ?_
    · obtain ⟨rfl, rfl⟩ := y
      obtain ⟨b5, hT5, ls, hD5, hsub⟩ := p5
      obtain ⟨d, hcj⟩ : ∃ d, cs[j]? = some d := ⟨cs[j], List.getElem?_eq_getElem (by omega)⟩
      refine ⟨rfl, _, rfl, t, sc, xs, 2, _, rfl, by decide, by decide, hT5, by omega, fun H7 jj hjj e7 hT7 => ⟨rfl, _, rfl, ?_⟩⟩
      have hD7 := e7 _ _ hDt hD5
      have b47 := b5.trans e7
      by_cases hj0 : jj = 0
      · refine iteD (by rw [hj0]; rfl) ?_
        have hat' : atI (cs.map lv) ((0 : Int) + (j : Nat)) = some (lv d) := by
          rw [Int.zero_add]
          exact atI_nat (by rw [List.getElem?_map, hcj]; rfl)
        have b8 : SameBut t H4 (upd H7 Dk (.lst (ls.map lv ++ [lv d]))) := fun b' o' hb' ho' => by
          rw [upd_ne (fun z => by rw [z, nD] at ho'; cases ho')]
          exact b47 _ _ hb' ho'
        have hls := hsub.length_le
        rw [List.length_take] at hls
        refine ⟨_, rfl, _, rfl, a, _, _, lv d, rfl, rfl, sqa (b3.trans b47), hat', _, hD7, by rw [List.length_map, sizeLine_eq]; omega, b8, Tp.upd hT3 hT7 b8 hDt.symm, ls ++ [d], by rw [upd_same, List.map_append]; rfl, ?_⟩
        rw [List.take_add_one, hcj]
        exact hsub.append (List.Sublist.refl _)
      · refine iteDN (fun z => hj0 (by have := V.int.inj z; omega)) ?_
        refine ⟨b47, hT7, ls, hD7, ?_⟩
        rw [List.take_add_one]
        exact hsub.trans (List.sublist_append_left _ _)
    · obtain ⟨b5, hT5, ls, hD5, hsub⟩ := p5
      have hls := hsub.length_le
      rw [List.length_take] at hls
      have ndl : ls.Nodup := hsub.nodup (nd.sublist (List.take_sublist ..))
      have hprD : pr ≠ Dk := ne_of_none hpr3 nD
      have bH5 : SameBut t H H5 := b3.trans b5
      have hpr5 := b5 _ _ hpt hpr3
      obtain ⟨r3, hr3⟩ := hT3.at
      have hA5 := dpA_but b5 hr3 _ _ (noLA_dL Ls) hA3
      have hSD : SqL K H5 Dk (ls.map lv) := .of hD5
      have htk : (cs.take i).length ≤ 4 := by rw [List.length_take]; omega
      have hat2 := hat
      refine ⟨_, rfl, _, _, rfl, rfl, _, rfl, ?_⟩
      by_cases hw2 : (way : Int) < 2
      · refine iteD hw2 ?_
        refine ⟨_, rfl, rfl, _, rfl, ?_⟩
        by_cases hw0 : way = 0
        · refine iteD (by rw [hw0]; rfl) ?_
          refine ⟨_, rfl, _, rfl, _, rfl, a, _, rfl, sqa bH5, fun pl npl => ?_⟩
          have e6 := same_upd (o := .lst (cutV (cs.map lv) none (some ((0 : Int) + (i : Nat))))) npl
          have hl6 : SqL K (upd H5 pl (.lst (cutV (cs.map lv) none (some ((0 : Int) + (i : Nat)))))) pl ((cs.take i).map lv) := by
            refine .of ?_
            rw [upd_same, show (some ((0 : Int) + (i : Nat)) : Option Int) = some ((i : Nat) : Int) by rw [Int.zero_add], cutV_to, List.map_take]
          have b6 := bH5.trans (SameBut.of (t := t) e6)
          refine ⟨_, rfl, .inl ⟨rfl, _, .of (e6 _ _ hpr5)⟩, ?_⟩
          refine ⟨_, rfl, _, rfl, a, _, _, lv c, rfl, rfl, sqa b6, hat, ?_⟩
          refine ⟨_, rfl, _, _, rfl, rfl, _, rfl, iteD (by omega) ⟨_, rfl, ?_⟩⟩
          obtain ⟨rsx, hrx⟩ := hT.at
          refine ⟨pl, (cs.take i).map (fun c => tx [c]), rfl, (by rw [← iv_str]; exact hl6), (by rw [List.length_map]; first | omega | (show 0 < 64; decide)), fun ys p1 pm hs np1 => ?_⟩
          obtain ⟨l, rfl, hlp, hll⟩ := sorted_letters (nd.sublist (List.take_sublist ..)) pm hs
          refine .inl ⟨p1, _, rfl, .of upd_same, fun p2 np2 => ?_⟩
          refine ⟨two_ok, fun p3 np3 => ?_⟩
          have eZ := ((same_upd (o := .lst ((l.map fun c => tx [c]).map V.str)) np1).trans (same_upd (o := .tup ((l.map fun c => tx [c]).map V.str)) np2)).trans (same_upd (o := .tup [lv c, .ref p2]) np3)
          have hp2 : SqT K (upd (upd (upd (upd H5 pl (.lst (cutV (cs.map lv) none (some ((0 : Int) + (i : Nat)))))) p1 (.lst ((l.map fun c => tx [c]).map V.str))) p2 (.tup ((l.map fun c => tx [c]).map V.str))) p3 (.tup [lv c, .ref p2])) p2 (l.map lv) :=
            Eq.mpr (congrArg (SqT K _ p2) (iv_str l)) (sqT_ext (same_upd np3) (.of upd_same))
          have hp3 : SqT K (upd (upd (upd (upd H5 pl (.lst (cutV (cs.map lv) none (some ((0 : Int) + (i : Nat)))))) p1 (.lst ((l.map fun c => tx [c]).map V.str))) p2 (.tup ((l.map fun c => tx [c]).map V.str))) p3 (.tup [lv c, .ref p2])) p3 [lv c, .ref p2] := .of upd_same
          have hprZ := eZ _ _ (e6 _ _ hpr5)
          have bZ : SameBut t H (upd (upd (upd (upd H5 pl (.lst (cutV (cs.map lv) none (some ((0 : Int) + (i : Nat)))))) p1 (.lst ((l.map fun c => tx [c]).map V.str))) p2 (.tup ((l.map fun c => tx [c]).map V.str))) p3 (.tup [lv c, .ref p2])) := SameBut.trans b6 (.of eZ)
          have TZ := Tp.ext (hT5.ext e6) eZ
          have AZ := dpA_ext eZ _ _ (dpA_ext e6 _ _ hA5)
          generalize upd (upd (upd (upd H5 pl (.lst (cutV (cs.map lv) none (some ((0 : Int) + (i : Nat)))))) p1 (.lst ((l.map fun c => tx [c]).map V.str))) p2 (.tup ((l.map fun c => tx [c]).map V.str))) p3 (.tup [lv c, .ref p2]) = HZ at hp2 hp3 hprZ bZ TZ AZ
          refine ⟨pr, us, .ref p3, rfl, rfl, hprZ, by rw [sizeLine_eq]; omega, ?_⟩
          have bY : SameBut t H (upd HZ pr (.lst (us ++ [.ref p3]))) := fun b' o' hb' ho' => by
            rw [upd_ne (fun z => by rw [z, hpr0] at ho'; cases ho')]
            exact bZ _ _ hb' ho'
          refine ⟨_, _, us ++ [.ref p3], Ls ++ [(c, l)], rfl, bY, Tp.mono (Tp.upd hT TZ bY hpt.symm) (by omega), upd_same, ?_, hR.snoc (by rw [hLi]; exact hci) hlp (fun d hd => by rw [hLi]; exact (fun d hd => hd) d (hll.mem_iff.mp hd)), by rw [List.length_append, hLi]; rfl⟩
          rw [List.map_append]
          exact dpA_app (dpA_but (but_upd (t := pr)) hprZ _ _ (noLA_dL Ls) AZ) (.cons (dp_but (but_upd (t := pr)) hprZ _ _ (noL_dE _) (dp_ofEntry (e := (c, l)) hp3 hp2)) .nil)
        · refine iteDN (fun z => hw0 (by have := V.int.inj z; omega)) ?_
          refine ⟨_, rfl, _, rfl, _, rfl, a, _, rfl, sqa bH5, fun pq npq => ?_⟩
          have e5' := same_upd (o := .lst (cutV (cs.map lv) none (some ((0 : Int) + (i : Nat))))) npq
          refine ⟨_, rfl, _, rfl, pq, _, rfl, .of upd_same, fun pl npl => ?_⟩
          have e6 := e5'.trans (same_upd (o := .lst (cutV (cutV (cs.map lv) none (some ((0 : Int) + (i : Nat)))) (some (-1)) none)) npl)
          have hl6 : SqL K (upd (upd H5 pq (.lst (cutV (cs.map lv) none (some ((0 : Int) + (i : Nat)))))) pl (.lst (cutV (cutV (cs.map lv) none (some ((0 : Int) + (i : Nat)))) (some (-1)) none))) pl (((cs.take i).drop ((cs.take i).length - 1)).map lv) := by
            refine .of ?_
            rw [upd_same, show (some ((0 : Int) + (i : Nat)) : Option Int) = some ((i : Nat) : Int) by rw [Int.zero_add], cutV_to, cutV_last, ← List.map_take, ← List.map_drop, List.length_map]
          have b6 := bH5.trans (SameBut.of (t := t) e6)
          have hdl : ((cs.take i).drop ((cs.take i).length - 1)).length ≤ 4 := by rw [List.length_drop]; omega
          refine ⟨_, rfl, .inl ⟨rfl, _, .of (e6 _ _ hpr5)⟩, ?_⟩
          refine ⟨_, rfl, _, rfl, a, _, _, lv c, rfl, rfl, sqa b6, hat, ?_⟩
          refine ⟨_, rfl, _, _, rfl, rfl, _, rfl, iteD (by omega) ⟨_, rfl, ?_⟩⟩
          obtain ⟨rsx, hrx⟩ := hT.at
          refine ⟨pl, ((cs.take i).drop ((cs.take i).length - 1)).map (fun c => tx [c]), rfl, (by rw [← iv_str]; exact hl6), (by rw [List.length_map]; first | omega | (show 0 < 64; decide)), fun ys p1 pm hs np1 => ?_⟩
          obtain ⟨l, rfl, hlp, hll⟩ := sorted_letters ((nd.sublist (List.take_sublist ..)).sublist (List.drop_sublist ..)) pm hs
          refine .inl ⟨p1, _, rfl, .of upd_same, fun p2 np2 => ?_⟩
          refine ⟨two_ok, fun p3 np3 => ?_⟩
          have eZ := ((same_upd (o := .lst ((l.map fun c => tx [c]).map V.str)) np1).trans (same_upd (o := .tup ((l.map fun c => tx [c]).map V.str)) np2)).trans (same_upd (o := .tup [lv c, .ref p2]) np3)
          have hp2 : SqT K (upd (upd (upd (upd (upd H5 pq (.lst (cutV (cs.map lv) none (some ((0 : Int) + (i : Nat)))))) pl (.lst (cutV (cutV (cs.map lv) none (some ((0 : Int) + (i : Nat)))) (some (-1)) none))) p1 (.lst ((l.map fun c => tx [c]).map V.str))) p2 (.tup ((l.map fun c => tx [c]).map V.str))) p3 (.tup [lv c, .ref p2])) p2 (l.map lv) :=
            Eq.mpr (congrArg (SqT K _ p2) (iv_str l)) (sqT_ext (same_upd np3) (.of upd_same))
          have hp3 : SqT K (upd (upd (upd (upd (upd H5 pq (.lst (cutV (cs.map lv) none (some ((0 : Int) + (i : Nat)))))) pl (.lst (cutV (cutV (cs.map lv) none (some ((0 : Int) + (i : Nat)))) (some (-1)) none))) p1 (.lst ((l.map fun c => tx [c]).map V.str))) p2 (.tup ((l.map fun c => tx [c]).map V.str))) p3 (.tup [lv c, .ref p2])) p3 [lv c, .ref p2] := .of upd_same
          have hprZ := eZ _ _ (e6 _ _ hpr5)
          have bZ : SameBut t H (upd (upd (upd (upd (upd H5 pq (.lst (cutV (cs.map lv) none (some ((0 : Int) + (i : Nat)))))) pl (.lst (cutV (cutV (cs.map lv) none (some ((0 : Int) + (i : Nat)))) (some (-1)) none))) p1 (.lst ((l.map fun c => tx [c]).map V.str))) p2 (.tup ((l.map fun c => tx [c]).map V.str))) p3 (.tup [lv c, .ref p2])) := SameBut.trans b6 (.of eZ)
          have TZ := Tp.ext (hT5.ext e6) eZ
          have AZ := dpA_ext eZ _ _ (dpA_ext e6 _ _ hA5)
          generalize upd (upd (upd (upd (upd H5 pq (.lst (cutV (cs.map lv) none (some ((0 : Int) + (i : Nat)))))) pl (.lst (cutV (cutV (cs.map lv) none (some ((0 : Int) + (i : Nat)))) (some (-1)) none))) p1 (.lst ((l.map fun c => tx [c]).map V.str))) p2 (.tup ((l.map fun c => tx [c]).map V.str))) p3 (.tup [lv c, .ref p2]) = HZ at hp2 hp3 hprZ bZ TZ AZ
          refine ⟨pr, us, .ref p3, rfl, rfl, hprZ, by rw [sizeLine_eq]; omega, ?_⟩
          have bY : SameBut t H (upd HZ pr (.lst (us ++ [.ref p3]))) := fun b' o' hb' ho' => by
            rw [upd_ne (fun z => by rw [z, hpr0] at ho'; cases ho')]
            exact bZ _ _ hb' ho'
          refine ⟨_, _, us ++ [.ref p3], Ls ++ [(c, l)], rfl, bY, Tp.mono (Tp.upd hT TZ bY hpt.symm) (by omega), upd_same, ?_, hR.snoc (by rw [hLi]; exact hci) hlp (fun d hd => by rw [hLi]; exact (fun d hd => List.mem_of_mem_drop hd) d (hll.mem_iff.mp hd)), by rw [List.length_append, hLi]; rfl⟩
          rw [List.map_append]
          exact dpA_app (dpA_but (but_upd (t := pr)) hprZ _ _ (noLA_dL Ls) AZ) (.cons (dp_but (but_upd (t := pr)) hprZ _ _ (noL_dE _) (dp_ofEntry (e := (c, l)) hp3 hp2)) .nil)
      · refine iteDN hw2 ?_
        refine ⟨_, rfl, .inl ⟨rfl, _, .of hpr5⟩, ?_⟩
        refine ⟨_, rfl, _, rfl, a, _, _, lv c, rfl, rfl, sqa bH5, hat, ?_⟩
        refine ⟨_, rfl, _, _, rfl, rfl, _, rfl, ?_⟩
        by_cases hw4 : (way : Int) < 4
        · refine iteD hw4 ⟨_, rfl, ?_⟩
          obtain ⟨rsx, hrx⟩ := hT.at
          refine ⟨Dk, ls.map (fun c => tx [c]), rfl, (by rw [← iv_str]; exact hSD), (by rw [List.length_map]; first | omega | (show 0 < 64; decide)), fun ys p1 pm hs np1 => ?_⟩
          obtain ⟨l, rfl, hlp, hll⟩ := sorted_letters ndl pm hs
          refine .inl ⟨p1, _, rfl, .of upd_same, fun p2 np2 => ?_⟩
          refine ⟨two_ok, fun p3 np3 => ?_⟩
          have eZ := ((same_upd (o := .lst ((l.map fun c => tx [c]).map V.str)) np1).trans (same_upd (o := .tup ((l.map fun c => tx [c]).map V.str)) np2)).trans (same_upd (o := .tup [lv c, .ref p2]) np3)
          have hp2 : SqT K (upd (upd (upd H5 p1 (.lst ((l.map fun c => tx [c]).map V.str))) p2 (.tup ((l.map fun c => tx [c]).map V.str))) p3 (.tup [lv c, .ref p2])) p2 (l.map lv) :=
            Eq.mpr (congrArg (SqT K _ p2) (iv_str l)) (sqT_ext (same_upd np3) (.of upd_same))
          have hp3 : SqT K (upd (upd (upd H5 p1 (.lst ((l.map fun c => tx [c]).map V.str))) p2 (.tup ((l.map fun c => tx [c]).map V.str))) p3 (.tup [lv c, .ref p2])) p3 [lv c, .ref p2] := .of upd_same
          have hprZ := eZ _ _ hpr5
          have bZ : SameBut t H (upd (upd (upd H5 p1 (.lst ((l.map fun c => tx [c]).map V.str))) p2 (.tup ((l.map fun c => tx [c]).map V.str))) p3 (.tup [lv c, .ref p2])) := SameBut.trans bH5 (.of eZ)
          have TZ := Tp.ext hT5 eZ
          have AZ := dpA_ext eZ _ _ hA5
          generalize upd (upd (upd H5 p1 (.lst ((l.map fun c => tx [c]).map V.str))) p2 (.tup ((l.map fun c => tx [c]).map V.str))) p3 (.tup [lv c, .ref p2]) = HZ at hp2 hp3 hprZ bZ TZ AZ
          refine ⟨pr, us, .ref p3, rfl, rfl, hprZ, by rw [sizeLine_eq]; omega, ?_⟩
          have bY : SameBut t H (upd HZ pr (.lst (us ++ [.ref p3]))) := fun b' o' hb' ho' => by
            rw [upd_ne (fun z => by rw [z, hpr0] at ho'; cases ho')]
            exact bZ _ _ hb' ho'
          refine ⟨_, _, us ++ [.ref p3], Ls ++ [(c, l)], rfl, bY, Tp.mono (Tp.upd hT TZ bY hpt.symm) (by omega), upd_same, ?_, hR.snoc (by rw [hLi]; exact hci) hlp (fun d hd => by rw [hLi]; exact (fun d hd => hsub.subset hd) d (hll.mem_iff.mp hd)), by rw [List.length_append, hLi]; rfl⟩
          rw [List.map_append]
          exact dpA_app (dpA_but (but_upd (t := pr)) hprZ _ _ (noLA_dL Ls) AZ) (.cons (dp_but (but_upd (t := pr)) hprZ _ _ (noL_dE _) (dp_ofEntry (e := (c, l)) hp3 hp2)) .nil)
        · refine iteDN hw4 ⟨by decide, fun pe npe => ?_⟩
          have e6 := same_upd (o := .lst []) npe
          have hl6 : SqL K (upd H5 pe (.lst [])) pe (([] : List Nat).map lv) := .of upd_same
          have b6 := bH5.trans (SameBut.of (t := t) e6)
          obtain ⟨rsx, hrx⟩ := hT.at
          refine ⟨pe, ([] : List Nat).map (fun c => tx [c]), rfl, (by rw [← iv_str]; exact hl6), (by rw [List.length_map]; first | omega | (show 0 < 64; decide)), fun ys p1 pm hs np1 => ?_⟩
          obtain ⟨l, rfl, hlp, hll⟩ := sorted_letters List.nodup_nil pm hs
          refine .inl ⟨p1, _, rfl, .of upd_same, fun p2 np2 => ?_⟩
          refine ⟨two_ok, fun p3 np3 => ?_⟩
          have eZ := ((same_upd (o := .lst ((l.map fun c => tx [c]).map V.str)) np1).trans (same_upd (o := .tup ((l.map fun c => tx [c]).map V.str)) np2)).trans (same_upd (o := .tup [lv c, .ref p2]) np3)
          have hp2 : SqT K (upd (upd (upd (upd H5 pe (.lst [])) p1 (.lst ((l.map fun c => tx [c]).map V.str))) p2 (.tup ((l.map fun c => tx [c]).map V.str))) p3 (.tup [lv c, .ref p2])) p2 (l.map lv) :=
            Eq.mpr (congrArg (SqT K _ p2) (iv_str l)) (sqT_ext (same_upd np3) (.of upd_same))
          have hp3 : SqT K (upd (upd (upd (upd H5 pe (.lst [])) p1 (.lst ((l.map fun c => tx [c]).map V.str))) p2 (.tup ((l.map fun c => tx [c]).map V.str))) p3 (.tup [lv c, .ref p2])) p3 [lv c, .ref p2] := .of upd_same
          have hprZ := eZ _ _ (e6 _ _ hpr5)
          have bZ : SameBut t H (upd (upd (upd (upd H5 pe (.lst [])) p1 (.lst ((l.map fun c => tx [c]).map V.str))) p2 (.tup ((l.map fun c => tx [c]).map V.str))) p3 (.tup [lv c, .ref p2])) := SameBut.trans b6 (.of eZ)
          have TZ := Tp.ext (hT5.ext e6) eZ
          have AZ := dpA_ext eZ _ _ (dpA_ext e6 _ _ hA5)
          generalize upd (upd (upd (upd H5 pe (.lst [])) p1 (.lst ((l.map fun c => tx [c]).map V.str))) p2 (.tup ((l.map fun c => tx [c]).map V.str))) p3 (.tup [lv c, .ref p2]) = HZ at hp2 hp3 hprZ bZ TZ AZ
          refine ⟨pr, us, .ref p3, rfl, rfl, hprZ, by rw [sizeLine_eq]; omega, ?_⟩
          have bY : SameBut t H (upd HZ pr (.lst (us ++ [.ref p3]))) := fun b' o' hb' ho' => by
            rw [upd_ne (fun z => by rw [z, hpr0] at ho'; cases ho')]
            exact bZ _ _ hb' ho'
          refine ⟨_, _, us ++ [.ref p3], Ls ++ [(c, l)], rfl, bY, Tp.mono (Tp.upd hT TZ bY hpt.symm) (by omega), upd_same, ?_, hR.snoc (by rw [hLi]; exact hci) hlp (fun d hd => by rw [hLi]; exact (fun d hd => nomatch hd) d (hll.mem_iff.mp hd)), by rw [List.length_append, hLi]; rfl⟩
          rw [List.map_append]
          exact dpA_app (dpA_but (but_upd (t := pr)) hprZ _ _ (noLA_dL Ls) AZ) (.cons (dp_but (but_upd (t := pr)) hprZ _ _ (noL_dE _) (dp_ofEntry (e := (c, l)) hp3 hp2)) .nil)
  · obtain ⟨v4, v5, us, Ls, rfl, b3, hT3, hpr3, hA3, hR, hLi⟩ := p
    refine ⟨_, rfl, pr, us, Ls, rfl, .of hpr3, hA3, ?_, fun p1 us' L np1 hA' hpm has => ?_⟩
    · rw [hR.nm]
      exact nd.sublist (List.take_sublist ..)
    · refine ⟨p1, _, rfl, .of upd_same, fun p2 o np2 ho1 ho2 => ?_⟩
      obtain ⟨hLok, hiff⟩ := hR.lok hLi nd low h4 hpm has
      have e12 := (same_upd (o := .lst us') np1).trans (same_upd (o := .frz o (.tup us')) np2)
      exact q _ p2 L (b3.trans (.of e12)) ((hT3.ext e12).mono (by omega)) ⟨us', ⟨o, upd_same, ho1, ho2⟩, dpA_ext e12 _ _ hA'⟩ hLok hiff
end
end Fk

set_option Elab.async false
set_option linter.all false
set_option maxRecDepth 100000
set_option maxHeartbeats 4000000
/-! Fk W3: norms, pages, words. -/
namespace Fk
open PySem PySem.Spec PyProof.Rows L2
def RN (cs : List Nat) : Rl → Prop
  | .drop n _ => 1 ≤ n ∧ n ≤ 100
  | .put c w _ => c ∈ cs ∧ (∀ d ∈ w, d ∈ cs) ∧ w.length ≤ 20 ∧ w ≠ [c]
  | _ => True
theorem RN.ok {cs : List Nat} {L : Lts} {r : Rl} (h : ∀ c, c ∈ cs ↔ c ∈ names L) (hr : RN cs r) : ROk L r := by
  cases r with
  | drop n l => exact hr
  | put c w l => exact ⟨(h c).mp hr.1, ⟨fun d hd => (h d).mp (hr.2.1 d hd), hr.2.2.1⟩, hr.2.2.2⟩
  | _ => trivial
theorem lay_str {x : Wd} (h : ∀ c ∈ x, lower26 c) : PyData.strOk (tx x) = true := by
  unfold PyData.strOk tx
  rw [← Array.all_toList]
  simp only [List.all_eq_true, decide_eq_true_eq]
  intro c hc
  have := (h c hc).2
  omega
theorem lay_dWs : ∀ {xs : List Nat}, (∀ c ∈ xs, lower26 c) → PyData.canLayAll0 (xs.map fun c => dW [c]) = true
  | [], _ => rfl
  | x :: xs, h => by
    rw [List.map_cons, PyData.canLayAll0, lay_dWs fun c hc => h c (List.mem_cons_of_mem _ hc)]
    show (PyData.strOk (tx [x]) && true) = true
    rw [lay_str fun c hc => by rw [List.mem_singleton] at hc; rw [hc]; exact h x List.mem_cons_self]
    rfl
theorem sh_dWs {xs : List Nat} (h : ∀ c ∈ xs, lower26 c) : SeqAt.shaped (.list (xs.map fun c => dW [c])) = true := by
  unfold SeqAt.shaped
  rw [PyData.canLay0, lay_dWs h, PyData.depth, depth_dWs]
  rfl
theorem eqv_nil {α : Type} (f : α → PyData) (xs : List α) : PyData.eqv (.list (xs.map f)) (.list []) = decide (xs.length = 0) := by
  cases xs <;> rfl
theorem join_lv (ls : List Nat) : Txt.join "" (ls.map fun c => tx [c]) = tx ls := by
  refine str_ext ?_
  rw [TL.join_eq, tx_cps]
  have h := TL.tl_join "" (ls.map fun c => tx [c])
  have e : ∀ l : List Nat, TL.joinL [] (l.map fun c => [c]) = l := by
    intro l
    induction l with
    | nil => rfl
    | cons a l ih =>
      cases l with
      | nil => rfl
      | cons b l =>
        show [a] ++ ([] ++ TL.joinL [] (([b] : List Nat) :: l.map fun c => [c])) = _
        rw [List.nil_append]
        have : TL.joinL [] (([b] : List Nat) :: l.map fun c => [c]) = b :: l := ih
        rw [this]
        rfl
  rw [List.map_map] at h
  have e2 : (TL.tl ∘ fun c => tx [c]) = fun c : Nat => [c] := by
    funext c
    exact tx_cps [c]
  rw [e2] at h
  have e3 : TL.tl "" = [] := rfl
  rw [e3, e] at h
  exact h
def spNorm (K : PySem.W.Frag) : Sp := fun vs H Q _ => ∃ (t sc a : Addr) (xs : List Int) (cs : List Nat) (b : Nat), vs = [.ref t, .ref a] ∧ SqL K H a (cs.map lv) ∧ (∀ c ∈ cs, lower26 c) ∧ cs.length ≤ 4 ∧ Tp K H t sc xs b ∧ b ≤ 950 ∧
  ∀ H' p r, RN cs r → SameBut t H H' → Tp K H' t sc xs (b + 10) → SqT K H' p (rV r) → Q (.ref p) H'
def spPage (K : PySem.W.Frag) : Sp := fun vs H Q _ => ∃ (t sc : Addr) (xs : List Int) (b : Nat), vs = [.ref t, .int 4, .int 5] ∧ Tp K H t sc xs b ∧ b ≤ 850 ∧
  ∀ H' p L R, SameBut t H H' → Tp K H' t sc xs (b + 100) → Bk K H' p L R → LOk L → (∀ r ∈ R, ROk L r) → R.length ≤ 5 → Q (.ref p) H'
def spLetters2 (K : PySem.W.Frag) : Sp := fun vs H Q _ => ∃ (p : Addr) (L : Lts) (R : List Rl), vs = [.ref p] ∧ Bk K H p L R ∧ L.length ≤ 4 ∧ ∀ H' q, Same H H' → H' q = some (.lst ((names L).map lv)) → Q (.ref q) H'
def spWord (K : PySem.W.Frag) : Sp := fun vs H Q _ => ∃ (t sc a : Addr) (xs : List Int) (cs : List Nat) (b : Nat), vs = [.ref t, .ref a, .int 5] ∧ SqL K H a (cs.map lv) ∧ (∀ c ∈ cs, lower26 c) ∧ cs.length ≤ 4 ∧ Tp K H t sc xs b ∧ b ≤ 950 ∧
  ∀ H' (x : Wd), (∀ c ∈ x, c ∈ cs) → x.length ≤ 5 → SameBut t H H' → Tp K H' t sc xs (b + 10) → Q (wv x) H'
/-- a comprehension that picks letters -/
def PickP (K : PySem.W.Frag) (t sc : Addr) (xs : List Int) (cs : List Nat) (H0 : Hp) (D : Addr) (b : Nat) (j : Nat) (H : Hp) : Prop := SameBut t H0 H ∧ Tp K H t sc xs (b + j) ∧ ∃ ls : List Nat, H D = some (.lst (ls.map lv)) ∧ (∀ d ∈ ls, d ∈ cs) ∧ ls.length = j
theorem PickP.add {K : PySem.W.Frag} {t sc D : Addr} {xs : List Int} {cs : List Nat} {H0 H H' : Hp} {b b0 j d : Nat} (h0 : Tp K H0 t sc xs b0) (nD : H0 D = none) (p : PickP K t sc xs cs H0 D b j H) (e : SameBut t H H') (hT : Tp K H' t sc xs (b + j + 1)) (hd : d ∈ cs) (hj : j < 1000) :
    ∃ acc, H' D = some (.lst acc) ∧ acc.length < sizeLine ∧ PickP K t sc xs cs H0 D b (j + 1) (upd H' D (.lst (acc ++ [lv d]))) := by
  obtain ⟨b1, hT1, ls, hD, hm, hl⟩ := p
  have hDt : D ≠ t := by
    obtain ⟨r1, h1⟩ := h0.at
    exact (ne_of_none h1 nD).symm
  have bY : SameBut t H0 (upd H' D (.lst (ls.map lv ++ [lv d]))) := fun b' o' hb' ho' => by
    rw [upd_ne (fun z => by rw [z, nD] at ho'; cases ho')]
    exact (b1.trans e) _ _ hb' ho'
  refine ⟨_, e _ _ hDt hD, by rw [List.length_map, sizeLine_eq]; omega, bY, Tp.upd h0 hT bY hDt.symm, ls ++ [d], by rw [upd_same, List.map_append]; rfl, fun x hx => ?_, by rw [List.length_append, hl]; rfl⟩
  rcases List.mem_append.mp hx with z | z
  · exact hm x z
  · rw [List.mem_singleton] at z
    rw [z]
    exact hd
theorem PickP.start {K : PySem.W.Frag} {t sc D : Addr} {xs : List Int} {cs : List Nat} {H0 : Hp} {b : Nat} (h0 : Tp K H0 t sc xs b) (nD : H0 D = none) : PickP K t sc xs cs H0 D b 0 (upd H0 D (.lst [])) :=
  ⟨.of (same_upd nD), h0.ext (same_upd nD), [], upd_same, (fun _ h => nomatch h), rfl⟩
theorem sd_of {z : Str} (h : z ∈ [("left" : Str), "right"]) : ∃ l : Bool, z = sd l := by
  rcases List.mem_cons.mp h with h | h
  · exact ⟨true, h⟩
  · exact ⟨false, List.mem_singleton.mp h⟩
theorem rv_len {r : Rl} : (rV r).length ≤ sizeLine := by
  refine sl2 (Nat.le_trans (?_ : (rV r).length ≤ 4) (by decide))
  cases r <;> simp [rV]
section
variable {P : Program} {w : World} {K : PySem.W.Frag} {mg : Str → Option Value} {base : Heap} (B : Bt K mg)
include B
theorem h_law_norm (D : Def K mg "_law_norm" s_law_norm [] []) (h__law_draw : Has P w K mg base "_law_draw" [] 1 (spDraw K)) (h__law_pick : Has P w K mg base "_law_pick" [] 2 (spPick K)) : Has P w K mg base "_law_norm" [] 3 (spNorm K) := by
  refine has_of D sc_law_norm (fun vs H Q E h => by obtain ⟨_, _, _, _, _, _, rfl, _⟩ := h; rfl) (fun _ _ _ _ _ _ us hl => match us, hl with | [_, _], _ => rfl) fun f cdv A outer s H vs Q E hr h => ?_
  obtain ⟨t, sc, a, xs, cs, b, rfl, hS, low, h4, hT, hb, q⟩ := h
  obtain ⟨rest, hrest⟩ := hT.at
  have sqa : ∀ {H' : Hp}, SameBut t H H' → SqL K H' a (cs.map lv) := fun e => by
    rw [iv_str] at hS ⊢
    exact sqL_but e hrest hS
  refine ⟨_, (pss_cons (ps_par (i := 2) (j := 3) rfl sc_law_norm.nd rfl rfl (by decide) rfl rfl (pa_cons (pe_has h__law_draw (hr.mono (by decide)) rfl (pa_cons (pv 0) (pa_cons pe_int pa_nil))) (pa_cons (pe_has h__law_pick (hr.mono (by decide)) rfl (pa_cons (pv 0) (pa_cons (pe_lst (pa_cons pe_str (pa_cons pe_str pa_nil))) pa_nil))) pa_nil)) rfl)
      (pss_cons (ps_if (pt_cmpR op_lt (pv 2) pe_int (nomark _)) (pss_one (ps_ret (pe_tup (pa_cons pe_str (pa_cons (pe_op op_add pe_int (pe_has h__law_draw (hr.mono (by decide)) rfl (pa_cons (pv 0) (pa_cons pe_int pa_nil)))) (pa_cons (pv 3) pa_nil)))))) pss_nil)
      (pss_cons (ps_if (pt_cmpR op_eq (pv 2) pe_int (nomark _)) (pss_one (ps_ret (pe_tup (pa_cons pe_str (pa_cons (pv 3) pa_nil))))) pss_nil)
      (pss_cons (ps_if (pt_cmpR op_eq (pv 2) pe_int (nomark _)) (pss_one (ps_ret (pe_tup (pa_cons pe_str pa_nil)))) pss_nil)
      (pss_cons (ps_if (PW.pt (pw_or (pt_cmpR op_lt (pv 2) pe_int (nomark _)) (pw_or1 (pt_cmpR (op_eqD hr.units) (pv 1) (pe_lst pa_nil) (nomark _))))) (pss_one (ps_ret (pe_tup (pa_cons pe_str (pa_cons (pv 3) pa_nil))))) pss_nil)
      (pss_cons (ps_set (i := 4) sc_law_norm.nd rfl (Or.inl rfl) (pe_has h__law_pick (hr.mono (by decide)) rfl (pa_cons (pv 0) (pa_cons (pv 1) pa_nil))))
      (pss_cons (ps_set (i := 5) sc_law_norm.nd rfl (Or.inl rfl) (pe_join pe_str (pe_lc (own := [("_law_k", 6)]) rfl sc_law_norm.nd (pi_range1 rfl B.range_ (pa_cons (pe_has h__law_draw (hr.mono (by decide)) rfl (pa_cons (pv 0) (pa_cons pe_int pa_nil))) pa_nil)) (blkOk_by (N := N_law_norm) (sc := defScope s_law_norm) (by decide +kernel)) (fun _ _ _ _ _ => (pg_name (i := 6) sc_law_norm.nd rfl (Or.inl rfl) (.inr rfl))) (fun _ _ _ _ _ => pts_nil) (fun _ _ _ _ _ => (pe_has h__law_pick (hr.mono (by decide)) rfl (pa_cons (pv 0) (pa_cons (pv 1) pa_nil)))))))
      (pss_one (ps_ret (pe_tup (pa_cons pe_str (pa_cons (pv 4) (pa_cons (pe_ifExp (pt_cmpR op_ne (pv 5) (pv 4) (nomark _)) (pv 5) pe_str) (pa_cons (pv 3) pa_nil)))))))))))))), ?_⟩
  refine ⟨_, rfl, t, sc, xs, 8, b, rfl, by decide, by decide, hT, by omega, fun H1 way hw e1 hT1 => ?_⟩
  refine ⟨_, rfl, by decide, fun pl npl => ?_⟩
  have e2 := same_upd (o := .lst [.str "left", .str "right"]) npl
  refine ⟨t, sc, pl, xs, ["left", "right"], b + 1, rfl, .of upd_same, by decide, by decide, hT1.ext e2, by omega, fun H2 z hz e3 hT2 => ?_⟩
  obtain ⟨l, rfl⟩ := sd_of hz
  have b2 : SameBut t H H2 := (e1.trans (.of e2)).trans e3
  refine ⟨_, _, rfl, ?_⟩
  refine ⟨_, rfl, _, _, rfl, rfl, _, rfl, ?_⟩
  by_cases h2 : (way : Int) < 2
  · refine iteD h2 ?_
    refine ⟨_, rfl, t, sc, xs, 4, b + 1 + 1, rfl, by decide, by decide, hT2, by omega, fun H3 j hj e4 hT3 => ?_⟩
    refine ⟨_, _, rfl, rfl, _, rfl, rv_len (r := .drop (1 + j) l), fun p np => ?_⟩
    refine q _ p (.drop (1 + j) l) ⟨by omega, by omega⟩ ((b2.trans e4).trans (.of (same_upd np))) ((hT3.ext (same_upd np)).mono (by omega)) (.of ?_)
    rw [upd_same]
    show some (HO.tup [V.str "drop", V.int ((1 : Int) + (j : Int)), .str (sd l)]) = some (HO.tup [V.str "drop", V.int ((1 + j : Nat) : Int), .str (sd l)])
    rw [Int.natCast_add]
    rfl
  · refine iteDN h2 ?_
    refine ⟨_, rfl, rfl, _, rfl, ?_⟩
    by_cases w2 : way = 2
    · refine iteD (by rw [w2]; rfl) ?_
      exact ⟨_, rfl, rv_len (r := .half l), fun p np => q _ p (.half l) trivial (b2.trans (.of (same_upd np))) ((hT2.ext (same_upd np)).mono (by omega)) (.of upd_same)⟩
    · refine iteDN (fun z => w2 (by have := V.int.inj z; omega)) ?_
      refine ⟨_, rfl, rfl, _, rfl, ?_⟩
      by_cases w3 : way = 3
      · refine iteD (by rw [w3]; rfl) ?_
        exact ⟨rv_len (r := .empty), fun p np => q _ p .empty trivial (b2.trans (.of (same_upd np))) ((hT2.ext (same_upd np)).mono (by omega)) (.of upd_same)⟩
      · refine iteDN (fun z => w3 (by have := V.int.inj z; omega)) ?_
        refine ⟨_, rfl, _, _, rfl, rfl, _, rfl, ?_⟩
        by_cases w6 : (way : Int) < 6
        · refine iteD w6 ?_
          exact ⟨_, rfl, rv_len (r := .lower l), fun p np => q _ p (.lower l) trivial (b2.trans (.of (same_upd np))) ((hT2.ext (same_upd np)).mono (by omega)) (.of upd_same)⟩
        · refine iteDN w6 ?_
          refine ⟨_, rfl, by decide, fun pe npe => ?_⟩
          have e5 := same_upd (o := .lst []) npe
          refine ⟨.list (cs.map fun c => dW [c]), .list [], .lst (e5.seq (sqa b2)) (dpA_ofLv cs), .lst (.of upd_same) .nil, sh_dWs low, rfl, _, rfl, ?_⟩
          rw [eqv_nil]
          have b5 : SameBut t H _ := b2.trans (SameBut.of (t := t) e5)
          have hT5 := hT2.ext e5
          generalize upd H2 pe (.lst []) = H5 at b5 hT5
          by_cases hcs : cs.length = 0
          · refine iteD hcs ?_
            exact ⟨_, rfl, rv_len (r := .lower l), fun p np => q _ p (.lower l) trivial (b5.trans (.of (same_upd np))) ((hT5.ext (same_upd np)).mono (by omega)) (.of upd_same)⟩
          · refine iteDN hcs ?_
            have hne : (cs.map fun c => tx [c]) ≠ [] := fun z => hcs (by rw [List.map_eq_nil_iff] at z; rw [z]; rfl)
            refine ⟨_, rfl, _, rfl, t, sc, a, xs, cs.map (fun c => tx [c]), b + 1 + 1, rfl, by rw [← iv_str]; exact sqa b5, hne, by rw [List.length_map]; omega, hT5, by omega, fun H6 z hz e6 hT6 => ?_⟩
            obtain ⟨c, hc, rfl⟩ := List.mem_map.mp hz
            have b6 := b5.trans e6
            refine ⟨⟨_, rfl⟩, ?_⟩
            refine ⟨_, rfl, t, sc, xs, 4, b + 1 + 1 + 1, rfl, by decide, by decide, hT6, by omega, fun H7 n hn e7 hT7 => ?_⟩
            have b7 := b6.trans e7
            refine ⟨((n : Nat) : Int), rfl, by omega, by omega, fun Dk nD => ?_⟩
            rw [show (((n : Nat) : Int)).toNat = n by omega]
            refine lc_it walk_range (PickP K t sc xs cs H7 Dk (b + 1 + 1 + 1 + 1)) (.start hT7 nD) (fun _ _ _ _ => trivial) (fun j v H8 H9 hj p y => ?_) fun H8 p => ?_
            · obtain ⟨rfl, rfl⟩ := y
              refine ⟨rfl, _, rfl, _, rfl, t, sc, a, xs, cs.map (fun c => tx [c]), b + 1 + 1 + 1 + 1 + j, rfl, by rw [← iv_str]; exact sqa (b7.trans p.1), hne, by rw [List.length_map]; omega, p.2.1, by omega, fun H10 z hz e10 hT10 => ?_⟩
              obtain ⟨d, hd, rfl⟩ := List.mem_map.mp hz
              exact PickP.add hT7 nD p e10 hT10 hd (by omega)
            · obtain ⟨b8, hT8, ls, hD8, hm, hl⟩ := p
              refine ⟨"", Dk, ls.map (fun c => tx [c]), rfl, rfl, .inl (.of (by rw [hD8, iv_str])), ?_, ?_⟩
              · rw [List.map_map]
                have : ((ls.map ((fun s : Str => s.length) ∘ fun c => tx [c])).sum) ≤ ls.length := by
                  clear hl hm hD8
                  induction ls with
                  | nil => simp
                  | cons x ls ih =>
                    rw [List.map_cons, List.sum_cons, List.length_cons]
                    have : ((fun s : Str => s.length) ∘ fun c => tx [c]) x = 1 := by
                      show (tx [x]).length = 1
                      rw [tx_len]
                      rfl
                    omega
                rw [List.length_map]
                have e0 : ("" : Str).length = 0 := rfl
                rw [e0]
                omega
              · rw [join_lv]
                refine ⟨_, rfl, _, rfl, _, rfl, rfl, _, rfl, ?_⟩
                by_cases hwc : ls = [c]
                · refine iteNS (by rw [hwc]) ?_
                  refine ⟨_, rfl, rv_len (r := .put c [] l), fun p np => q _ p (.put c [] l) ⟨hc, fun _ h => (nomatch h), by decide, by simp⟩ ((b7.trans b8).trans (.of (same_upd np))) ((hT8.ext (same_upd np)).mono (by omega)) (.of upd_same)⟩
                · refine iteNT (fun z => hwc (tx_inj (V.str.inj z))) ?_
                  refine ⟨_, rfl, _, rfl, rv_len (r := .put c ls l), fun p np => q _ p (.put c ls l) ⟨hc, hm, by omega, hwc⟩ ((b7.trans b8).trans (.of (same_upd np))) ((hT8.ext (same_upd np)).mono (by omega)) (.of upd_same)⟩
omit B in
theorem h_law_page (Bt' : Bt K mg) (D : Def K mg "_law_page" s_law_page [] []) (h__law_draw : Has P w K mg base "_law_draw" [] 1 (spDraw K)) (h__law_signs : Has P w K mg base "_law_signs" [] 2 (spSigns K))
    (h__law_rows : Has P w K mg base "_law_rows" [] 2 (spRows K)) (h__law_norm : Has P w K mg base "_law_norm" [] 3 (spNorm K)) : Has P w K mg base "_law_page" [] 4 (spPage K) := by
  have B := Bt'
  refine has_of D sc_law_page (fun vs H Q E h => by obtain ⟨_, _, _, _, rfl, _⟩ := h; rfl) (fun _ _ _ _ _ _ us hl => match us, hl with | [_, _, _], _ => rfl) fun f cdv A outer s H vs Q E hr h => ?_
  obtain ⟨t, sc, xs, b, rfl, hT, hb, q⟩ := h
  refine ⟨_, (pss_cons (ps_set (i := 3) sc_law_page.nd rfl (Or.inr rfl) (pe_has h__law_signs (hr.mono (by decide)) rfl (pa_cons (pv 0) (pa_cons (pe_ifExp (pt_cmpR op_eq (pe_has h__law_draw (hr.mono (by decide)) rfl (pa_cons (pv 0) (pa_cons pe_int pa_nil))) pe_int (nomark _)) (pv 1) (pe_has h__law_draw (hr.mono (by decide)) rfl (pa_cons (pv 0) (pa_cons (pe_op op_add (pv 1) pe_int) pa_nil)))) pa_nil))))
      (pss_cons (ps_set (i := 4) sc_law_page.nd rfl (Or.inl rfl) (pe_has h__law_rows (hr.mono (by decide)) rfl (pa_cons (pv 0) (pa_cons (pv 3) pa_nil))))
      (pss_one (ps_ret (pe_tup (pa_cons (pv 4) (pa_cons (pe_tupleOf rfl B.tuple_ (pe_lc (own := [("_law_k", 5)]) rfl sc_law_page.nd (pi_range1 rfl B.range_ (pa_cons (pe_has h__law_draw (hr.mono (by decide)) rfl (pa_cons (pv 0) (pa_cons (pe_op op_add (pv 2) pe_int) pa_nil))) pa_nil)) (blkOk_by (N := N_law_page) (sc := defScope s_law_page) (by decide +kernel)) (fun _ _ _ _ _ => (pg_name (i := 5) sc_law_page.nd rfl (Or.inl rfl) (.inr rfl))) (fun _ _ _ _ _ => pts_nil) (fun _ _ _ _ _ => (pe_has h__law_norm (hr.mono (by decide)) rfl (pa_cons (pv 0) (pa_cons (pv 3) pa_nil)))))) pa_nil))))))), ?_⟩
  refine ⟨_, rfl, _, rfl, t, sc, xs, 2, b, rfl, by decide, by decide, hT, by omega, fun H1 j hj e1 hT1 => ⟨rfl, _, rfl, ?_⟩⟩
  by_cases hj0 : j = 0
  refine iteD (by rw [hj0]; rfl) ?_
  have bX : SameBut t H H1 := e1
  refine ⟨_, rfl, t, sc, xs, 4, b + 1 + 1, rfl, by decide, hT1.mono (by omega), by omega, fun H3 ps cs nd hl low e3 hT3 hps => ?_⟩
  rotate_left
  refine iteDN (fun z => hj0 (by have := V.int.inj z; omega)) ?_
  refine ⟨_, rfl, _, rfl, _, _, rfl, rfl, t, sc, xs, 5, b + 1, rfl, by decide, by decide, hT1, by omega, fun H2 n hn e2 hT2 => ?_⟩
  have bX : SameBut t H H2 := e1.trans e2
  refine ⟨t, sc, xs, n, b + 1 + 1, rfl, by omega, hT2, by omega, fun H3 ps cs nd hl low e3 hT3 hps => ?_⟩
  all_goals
    have hcs4 : cs.length ≤ 4 := by omega
    have b3 := bX.trans e3
    refine ⟨_, rfl, _, rfl, t, sc, ps, xs, cs, b + 1 + 1 + 2, rfl, .of hps, nd, low, hcs4, hT3, by omega, fun H4 pL L e4 hT4 hLt hLok hiff => ?_⟩
    obtain ⟨r3, hr3⟩ := hT3.at
    have sqa : ∀ {H' : Hp}, SameBut t H3 H' → SqL K H' ps (cs.map lv) := fun e => by
      have h0 : SqL K H3 ps (cs.map lv) := .of hps
      rw [iv_str] at h0 ⊢
      exact sqL_but e hr3 h0
    refine ⟨_, rfl, ?_⟩
    refine ⟨_, rfl, _, rfl, _, _, rfl, rfl, t, sc, xs, 6, b + 1 + 1 + 2 + 20, rfl, by decide, by decide, hT4, by omega, fun H5 m hm e5 hT5 => ?_⟩
    refine ⟨((m : Nat) : Int), rfl, by omega, by omega, fun Dk nD => ?_⟩
    rw [show (((m : Nat) : Int)).toNat = m by omega]
    obtain ⟨r5, hr5⟩ := hT5.at
    have hDt : Dk ≠ t := (ne_of_none hr5 nD).symm
    refine lc_it walk_range (fun k H6 => SameBut t H5 H6 ∧ Tp K H6 t sc xs (b + 1 + 1 + 2 + 20 + 1 + 10 * k) ∧ ∃ (vs : List V) (R : List Rl), H6 Dk = some (.lst vs) ∧ DpAll K H6 vs (R.map dR) ∧ (∀ r ∈ R, RN cs r) ∧ R.length = k) ⟨.of (same_upd nD), hT5.ext (same_upd nD), [], [], upd_same, .nil, (fun _ h => nomatch h), rfl⟩ (fun _ _ _ _ => trivial) (fun k v H6 H7 hk p y => ?_) fun H6 p => ?_
    · obtain ⟨b6, hT6, vs, R, hD6, hA6, hRN, hRl⟩ := p
      obtain ⟨rfl, rfl⟩ := y
      refine ⟨rfl, _, rfl, _, rfl, t, sc, ps, xs, cs, _, rfl, sqa ((e4.trans e5).trans b6), low, hcs4, hT6, by omega, fun H8 p8 r hr8 e8 hT8 h8 => ?_⟩
      have hD8 := e8 _ _ hDt hD6
      obtain ⟨r6, hr6⟩ := hT6.at
      have bY : SameBut t H5 (upd H8 Dk (.lst (vs ++ [.ref p8]))) := fun b' o' hb' ho' => by
        rw [upd_ne (fun z => by rw [z, nD] at ho'; cases ho')]
        exact (b6.trans e8) _ _ hb' ho'
      have hvl : vs.length = k := by rw [dpA_len hA6, List.length_map, hRl]
      refine ⟨vs, hD8, by rw [sizeLine_eq]; omega, bY, (Tp.upd hT5 hT8 bY hDt.symm).mono (by omega), vs ++ [.ref p8], R ++ [r], upd_same, ?_, fun x hx => ?_, by rw [List.length_append, hRl]; rfl⟩
      · rw [List.map_append]
        exact dpA_app (dpA_but (but_upd (t := Dk)) hD8 _ _ (noLA_dRs R) (dpA_but e8 hr6 _ _ (noLA_dRs R) hA6)) (.cons (dp_but (but_upd (t := Dk)) hD8 _ _ (noL_dR r) (dp_ofRule h8)) .nil)
      · rcases List.mem_append.mp hx with z | z
        · exact hRN x z
        · rw [List.mem_singleton] at z
          rw [z]
          exact hr8
    · obtain ⟨b6, hT6, vs, R, hD6, hA6, hRN, hRl⟩ := p
      refine .inl ⟨Dk, _, rfl, .of hD6, fun p1 np1 => ⟨two_ok, fun p2 np2 => ?_⟩⟩
      have e12 := (same_upd (o := .tup vs) np1).trans (same_upd (o := .tup [.ref pL, .ref p1]) np2)
      obtain ⟨r4, hr4⟩ := hT4.at
      refine q _ p2 L R (((b3.trans e4).trans (e5.trans b6)).trans (.of e12)) ((hT6.ext e12).mono (by omega)) ⟨pL, p1, .of upd_same, ((hLt.but (e5.trans b6) hr4)).ext e12, ⟨vs, sqT_ext (same_upd np2) (.of upd_same), dpA_ext e12 _ _ hA6⟩⟩ hLok (fun r hr => (hRN r hr).ok hiff) (by omega)
theorem h_law_letters (D : Def K mg "_law_letters" s_law_letters [] []) : Has P w K mg base "_law_letters" [] 1 (spLetters2 K) := by
  refine has_of D sc_law_letters (fun vs H Q E h => by obtain ⟨_, _, _, rfl, _⟩ := h; rfl) (fun _ _ _ _ _ _ us hl => match us, hl with | [_], _ => rfl) fun f cdv A outer s H vs Q E hr h => ?_
  obtain ⟨pg, L, R, rfl, ⟨l, rr, hS, ⟨ls, hls, hlA⟩, hrs⟩, h4, q⟩ := h
  have hlen : ls.length = L.length := by rw [dpA_len hlA, List.length_map]
  refine ⟨_, (pss_one (ps_ret (pe_lc (own := [("_law_row", 1)]) rfl sc_law_letters.nd (pi_tup (pe_ix ix_tup (pv 0) pe_int (fun _ _ => rfl))) (blkOk_by (N := N_law_letters) (sc := defScope s_law_letters) (by decide +kernel)) (fun _ _ _ _ _ => (pg_name (i := 1) sc_law_letters.nd rfl (Or.inl rfl) (.inr rfl))) (fun _ _ _ _ _ => pts_nil) (fun _ _ _ _ _ => (pe_ix (ix_tupK K rfl) (pv 1) pe_int (fun _ _ => rfl)))))), ?_⟩
  refine ⟨_, rfl, pg, _, 0, _, rfl, rfl, hS, rfl, l, rfl, ⟨_, hls.sq⟩, fun Dk nD => ?_⟩
  refine lc_it (walk_tup (xs := ls)) (LcP H Dk fun i => ((names L).take i).map lv) (.start nD rfl) (fun _ H2 _ p => sqT_ext p.1 hls.sq) (fun i x H2 H3 hi p y => ?_) fun H2 p => ?_
  · obtain ⟨rfl, g⟩ := y
    obtain ⟨e, he, hde, hm⟩ := dL_at hlA p.1 g
    obtain ⟨a1, b1, rfl, k1, k2⟩ := dp_entry hde
    refine ⟨rfl, _, rfl, a1, _, 0, _, rfl, rfl, k1, rfl, ?_⟩
    refine p.add nD (.refl _) (map_take_succ lv (names L) (x := e.1) (by unfold names; rw [List.getElem?_map, he]; rfl)) ?_
    rw [List.length_map, List.length_take]
    omega
  · refine q _ Dk p.1 ?_
    have : (names L).length ≤ ls.length := by
      unfold names
      rw [List.length_map]
      omega
    rw [p.2]
    show some (HO.lst (((names L).take ls.length).map lv)) = _
    rw [List.take_of_length_le this]
omit B in
theorem h_law_word (Bt' : Bt K mg) (D : Def K mg "_law_word" s_law_word [] []) (h__law_draw : Has P w K mg base "_law_draw" [] 1 (spDraw K)) (h__law_pick : Has P w K mg base "_law_pick" [] 2 (spPick K)) : Has P w K mg base "_law_word" [] 3 (spWord K) := by
  have B := Bt'
  refine has_of D sc_law_word (fun vs H Q E h => by obtain ⟨_, _, _, _, _, _, rfl, _⟩ := h; rfl) (fun _ _ _ _ _ _ us hl => match us, hl with | [_, _, _], _ => rfl) fun f cdv A outer s H vs Q E hr h => ?_
  obtain ⟨t, sc, a, xs, cs, b, rfl, hS, low, h4, hT, hb, q⟩ := h
  obtain ⟨rest, hrest⟩ := hT.at
  have sqa : ∀ {H' : Hp}, SameBut t H H' → SqL K H' a (cs.map lv) := fun e => by
    rw [iv_str] at hS ⊢
    exact sqL_but e hrest hS
  refine ⟨_, (pss_cons (ps_if (pt_cmpR (op_eqD hr.units) (pv 1) (pe_lst pa_nil) (nomark _)) (pss_one (ps_ret pe_str)) pss_nil)
      (pss_cons (ps_set (i := 3) sc_law_word.nd rfl (Or.inl rfl) (pe_ifExp (pt_cmpR op_eq (pe_has h__law_draw (hr.mono (by decide)) rfl (pa_cons (pv 0) (pa_cons pe_int pa_nil))) pe_int (nomark _)) (pe_op op_sub (pv 2) (pe_has h__law_draw (hr.mono (by decide)) rfl (pa_cons (pv 0) (pa_cons pe_int pa_nil)))) (pe_has h__law_draw (hr.mono (by decide)) rfl (pa_cons (pv 0) (pa_cons (pe_op op_add (pv 2) pe_int) pa_nil)))))
      (pss_one (ps_ret (pe_join pe_str (pe_lc (own := [("_law_k", 4)]) rfl sc_law_word.nd (pi_range1 rfl B.range_ (pa_cons (pv 3) pa_nil)) (blkOk_by (N := N_law_word) (sc := defScope s_law_word) (by decide +kernel)) (fun _ _ _ _ _ => (pg_name (i := 4) sc_law_word.nd rfl (Or.inl rfl) (.inr rfl))) (fun _ _ _ _ _ => pts_nil) (fun _ _ _ _ _ => (pe_has h__law_pick (hr.mono (by decide)) rfl (pa_cons (pv 0) (pa_cons (pv 1) pa_nil)))))))))), ?_⟩
  refine ⟨_, rfl, by decide, fun pe npe => ?_⟩
  have e5 := same_upd (o := .lst []) npe
  refine ⟨.list (cs.map fun c => dW [c]), .list [], .lst (e5.seq hS) (dpA_ofLv cs), .lst (.of upd_same) .nil, sh_dWs low, rfl, _, rfl, ?_⟩
  rw [eqv_nil]
  have b5 : SameBut t H _ := SameBut.of (t := t) e5
  have hT5 := hT.ext e5
  generalize upd H pe (.lst []) = H5 at b5 hT5
  by_cases hcs : cs.length = 0
  · refine iteD hcs ?_
    exact q H5 [] (fun _ h => nomatch h) (by decide) b5 (hT5.mono (by omega))
  · refine iteDN hcs ?_
    have hne : (cs.map fun c => tx [c]) ≠ [] := fun z => hcs (by rw [List.map_eq_nil_iff] at z; rw [z]; rfl)
    refine ⟨_, rfl, t, sc, xs, 2, b, rfl, by decide, by decide, hT5, by omega, fun H6 j hj e6 hT6 => ⟨rfl, _, rfl, ?_⟩⟩
    have b6 := b5.trans e6
    by_cases hj0 : j = 0
    refine iteD (by rw [hj0]; rfl) ?_
    refine ⟨_, rfl, _, rfl, t, sc, xs, 2, b + 1, rfl, by decide, by decide, hT6, by omega, fun H7 n hn e7 hT7 => ⟨_, _, rfl, rfl, ?_⟩⟩
    have b7 := b6.trans e7
    have hz : ((5 : Int) - (n : Nat)).toNat ≤ 5 := by omega
    refine ⟨⟨_, rfl⟩, _, rfl, (5 : Int) - (n : Nat), rfl, by omega, by omega, fun Dk nD => ?_⟩
    rotate_left
    refine iteDN (fun z => hj0 (by have := V.int.inj z; omega)) ?_
    refine ⟨_, rfl, _, rfl, _, _, rfl, rfl, t, sc, xs, 6, b + 1, rfl, by decide, by decide, hT6, by omega, fun H7 n hn e7 hT7 => ?_⟩
    have b7 := b6.trans e7
    have hz : (((n : Nat) : Int)).toNat ≤ 5 := by omega
    refine ⟨⟨_, rfl⟩, _, rfl, ((n : Nat) : Int), rfl, by omega, by omega, fun Dk nD => ?_⟩
    all_goals
      refine lc_it walk_range (PickP K t sc xs cs H7 Dk (b + 1 + 1)) (.start hT7 nD) (fun _ _ _ _ => trivial) (fun j v H8 H9 hj p y => ?_) fun H8 p => ?_
      · obtain ⟨rfl, rfl⟩ := y
        refine ⟨rfl, _, rfl, _, rfl, t, sc, a, xs, cs.map (fun c => tx [c]), b + 1 + 1 + j, rfl, by rw [← iv_str]; exact sqa (b7.trans p.1), hne, by rw [List.length_map]; omega, p.2.1, by omega, fun H10 z hz' e10 hT10 => ?_⟩
        obtain ⟨d, hd, rfl⟩ := List.mem_map.mp hz'
        exact PickP.add hT7 nD p e10 hT10 hd (by omega)
      · obtain ⟨b8, hT8, ls, hD8, hm, hl⟩ := p
        refine ⟨"", Dk, ls.map (fun c => tx [c]), rfl, rfl, .inl (.of (by rw [hD8, iv_str])), ?_, ?_⟩
        · rw [List.map_map]
          have : ((ls.map ((fun s : Str => s.length) ∘ fun c => tx [c])).sum) ≤ ls.length := by
            clear hl hm hD8
            induction ls with
            | nil => simp
            | cons x ls ih =>
              rw [List.map_cons, List.sum_cons, List.length_cons]
              have : ((fun s : Str => s.length) ∘ fun c => tx [c]) x = 1 := by
                show (tx [x]).length = 1
                rw [tx_len]
                rfl
              omega
          rw [List.length_map]
          have e0 : ("" : Str).length = 0 := rfl
          rw [e0]
          omega
        · rw [join_lv]
          exact q H8 ls hm (by omega) (b7.trans b8) (hT8.mono (by omega))
end
end Fk

set_option Elab.async false
set_option linter.all false
set_option maxRecDepth 100000
set_option maxHeartbeats 4000000
/-! Fk W4: the law's own results and steps. -/
namespace Fk
open PySem PySem.Spec PyProof.Rows L2
def spPlaces2 : Sp := fun vs H Q _ => ∃ (n : Int) (l : Bool), vs = [.int n, .str (sd l)] ∧ -1000 ≤ n ∧ n ≤ 1000 ∧ ∀ H' p, Same H H' → H p = none → H' p = some (.lst ((plc n.toNat l).map iv)) → Q (.ref p) H'
def spLresults (K : PySem.W.Frag) : Sp := fun vs H Q _ => ∃ (l a : Addr) (L : Lts) (r : Rl) (x : Wd), vs = [.ref l, .ref a, wv x] ∧ LtAt K H l L ∧ LOk L ∧ SqT K H a (rV r) ∧ ROk L r ∧ WOk L x ∧
  ∀ H' p, Same H H' → H p = none → H' p = some (.lst ((resOf L x r).map wv)) → Q (.ref p) H'
def spLsteps (K : PySem.W.Frag) : Sp := fun vs H Q _ => ∃ (b : Addr) (L : Lts) (R : List Rl) (x : Wd), vs = [.ref b, wv x] ∧ Bk K H b L R ∧ LOk L ∧ (∀ r ∈ R, ROk L r) ∧ R.length ≤ 100 ∧ WOk L x ∧
  ∀ H' p, Same H H' → SqT K H' p ((stp L R x).map wv) → Q (.ref p) H'
theorem addNot_snoc (x : Wd) (acc l : List Wd) (y : Wd) : addNot x acc (l ++ [y]) = if y ≠ x ∧ y ∉ addNot x acc l then addNot x acc l ++ [y] else addNot x acc l := by
  rw [addNot_app]
  rfl
theorem addNot_len (x : Wd) : ∀ (acc l : List Wd), (addNot x acc l).length ≤ acc.length + l.length
  | acc, [] => Nat.le_refl _
  | acc, y :: l => by
    show (if y ≠ x ∧ y ∉ acc then addNot x (acc ++ [y]) l else addNot x acc l).length ≤ _
    split
    · have := addNot_len x (acc ++ [y]) l
      rw [List.length_append] at this
      rw [List.length_cons]
      simp at this
      omega
    · have := addNot_len x acc l
      rw [List.length_cons]
      omega
section
variable {P : Program} {w : World} {K : PySem.W.Frag} {mg : Str → Option Value} {base : Heap} (B : Bt K mg)
include B
theorem h_law_places (D : Def K mg "_law_places" s_law_places [] []) : Has P w K mg base "_law_places" [] 1 spPlaces2 := by
  refine has_of D sc_law_places (fun vs H Q E h => by obtain ⟨_, _, rfl, _⟩ := h; rfl) (fun _ _ _ _ _ _ us hl => match us, hl with | [_, _], _ => rfl) fun f cdv A outer s H vs Q E hr h => ?_
  obtain ⟨n, l, rfl, hn0, hn, q⟩ := h
  refine ⟨_, (pss_cons (ps_set (i := 2) sc_law_places.nd rfl (Or.inl rfl) (pe_listRg rfl rfl B.list_ (prg_1 rfl B.range_ (pv 0))))
      (pss_one (ps_ret (pe_ifExp (pt_cmpR op_eq (pv 1) pe_str (nomark _)) (pv 2) (pe_revL (pv 2)))))), ?_⟩
  refine ⟨_, rfl, n, rfl, ?_, fun p np => ?_⟩
  · exact ⟨by omega, by omega, by omega, by omega, by omega⟩
  · rw [rgV_zero]
    refine ⟨_, rfl, rfl, _, rfl, ?_⟩
    cases l
    · refine ⟨_, rfl, p, _, rfl, .of upd_same, fun p2 np2 => q _ p2 ((same_upd np).trans (same_upd np2)) ((same_upd np).free np2) ?_⟩
      rw [upd_same]
      simp [plc, iv]
    · refine ⟨_, rfl, q _ p (same_upd np) np ?_⟩
      rw [upd_same]
      rfl
theorem h_law_results (D : Def K mg "_law_results" s_law_results [] []) (h__law_places : Has P w K mg base "_law_places" [] 1 spPlaces2) : Has P w K mg base "_law_results" [] 2 (spLresults K) := by
  refine has_of D sc_law_results (fun vs H Q E h => by obtain ⟨_, _, _, _, _, rfl, _⟩ := h; rfl) (fun _ _ _ _ _ _ us hl => match us, hl with | [_, _, _], _ => rfl) fun f cdv A outer s H vs Q E hr h => ?_
  obtain ⟨pl, a, L, r, x, rfl, hlt, hL, hS, hok, hx, q⟩ := h
  have hu := hu_of hr
  have hz : (tx x).length ≤ sizeLine := sl2 (by rw [tx_len]; have := hx.2; omega)
  have hx2 := hx.2
  have hrl := resOf_len hL hx hok
  refine ⟨_, (pss_cons (ps_if (pt_cmpR op_eq (pe_ix ix_tup (pv 1) pe_int (fun _ _ => rfl)) pe_str (nomark _)) (pss_one (ps_ret (pe_lst (pa_cons pe_str pa_nil)))) pss_nil)
      (pss_cons (ps_if (pt_cmpR op_eq (pe_ix ix_tup (pv 1) pe_int (fun _ _ => rfl)) pe_str (nomark _)) (pss_cons (ps_set (i := 3) sc_law_results.nd rfl (Or.inl rfl) (pe_op op_fdiv (pe_callB call_len_str rfl B.len_ (by decide +kernel) (pa_cons (pv 2) pa_nil)) pe_int))
      (pss_one (ps_ret (pe_lst (pa_cons (pe_ifExp (pt_cmpR op_eq (pe_ix ix_tup (pv 1) pe_int (fun _ _ => rfl)) pe_str (nomark _)) (pe_slice sl_str (pv 2) po_none (po_some (pv 3))) (pe_slice sl_str (pv 2) (po_some (pe_op op_sub (pe_callB call_len_str rfl B.len_ (by decide +kernel) (pa_cons (pv 2) pa_nil)) (pv 3))) po_none)) pa_nil))))) pss_nil)
      (pss_cons (ps_if (pt_cmpR op_eq (pe_ix ix_tup (pv 1) pe_int (fun _ _ => rfl)) pe_str (nomark _)) (pss_cons (ps_set (i := 4) sc_law_results.nd rfl (Or.inl rfl) (pe_has h__law_places (hr.mono (by decide)) rfl (pa_cons (pe_callB (call_max2 rfl) rfl B.max_ (by decide +kernel) (pa_cons pe_int (pa_cons (pe_op op_add (pe_op op_sub (pe_callB call_len_str rfl B.len_ (by decide +kernel) (pa_cons (pv 2) pa_nil)) (pe_ix ix_tup (pv 1) pe_int (fun _ _ => rfl))) pe_int) pa_nil))) (pa_cons (pe_ix ix_tup (pv 1) pe_int (fun _ _ => rfl)) pa_nil))))
      (pss_one (ps_ret (pe_lc (own := [("_law_k", 7)]) rfl sc_law_results.nd (pi_list (pv 4)) (blkOk_by (N := N_law_results) (sc := defScope s_law_results) (by decide +kernel)) (fun _ _ _ _ _ => (pg_name (i := 7) sc_law_results.nd rfl (Or.inl rfl) (.inr rfl))) (fun _ _ _ _ _ => pts_nil) (fun _ _ _ _ _ => (pe_op op_add_str (pe_slice sl_str (pv 2) po_none (po_some (pv 7))) (pe_slice sl_str (pv 2) (po_some (pe_op op_add (pv 7) (pe_ix (ix_tupK K rfl) (pv 1) pe_int (fun _ _ => rfl)))) po_none))))))) pss_nil)
      (pss_cons (ps_par (i := 5) (j := 6) rfl sc_law_results.nd rfl rfl (by decide) rfl rfl (pa_cons (pe_lst pa_nil) (pa_cons (pe_callTy (call_dictP rfl) rfl B.dict_ (by decide +kernel) (pa_cons (pe_callTy call_list_of rfl B.list_ (by decide +kernel) (pa_cons (pv 0) pa_nil)) pa_nil)) pa_nil)) rfl)
      (pss_cons (ps_for PassesOwn.never rfl (pi_list (pe_has h__law_places (hr.mono (by decide)) rfl (pa_cons (pe_callB call_len_str rfl B.len_ (by decide +kernel) (pa_cons (pv 2) pa_nil)) (pa_cons (pe_ix ix_tup (pv 1) (pe_un un_neg pe_int) (fun _ _ => rfl)) pa_nil)))) (pg_name (i := 7) sc_law_results.nd rfl (Or.inr rfl)) (pss_one (ps_if (pt_cmpR op_eq (pe_ix ix_tup (pv 1) pe_int (fun _ _ => rfl)) pe_str (nomark _)) (pss_one (ps_set (i := 5) sc_law_results.nd rfl (Or.inl rfl) (pe_op op_cat (pv 5) (pe_lc (own := [("_law_lower", 8)]) rfl sc_law_results.nd (pi_tup (pe_dget hu (pv 6) (pe_ix ix_str (pv 2) (pv 7) (fun _ _ => rfl)) (fun _ _ => rfl))) (blkOk_by (N := N_law_results) (sc := defScope s_law_results) (by decide +kernel)) (fun _ _ _ _ _ => (pg_name (i := 8) sc_law_results.nd rfl (Or.inl rfl) (.inr rfl))) (fun _ _ _ _ _ => pts_nil) (fun _ _ _ _ _ => (pe_op op_add_str (pe_op op_add_str (pe_slice sl_str (pv 2) po_none (po_some (pv 7))) (pv 8)) (pe_slice sl_str (pv 2) (po_some (pe_op op_add (pv 7) pe_int)) po_none))))))) (pss_one (ps_if (pt_cmpR op_eq (pe_ix ix_str (pv 2) (pv 7) (fun _ _ => rfl)) (pe_ix ix_tup (pv 1) pe_int (fun _ _ => rfl)) (nomark _)) (pss_one (ps_expr (pe_bm PySem.F.plainAttrs_list PySem.F.slot_list_append PySem.F.type_list_append mt_append (pv 5) (pa_cons (pe_op op_add_str (pe_op op_add_str (pe_slice sl_str (pv 2) po_none (po_some (pv 7))) (pe_ix ix_tup (pv 1) pe_int (fun _ _ => rfl))) (pe_slice sl_str (pv 2) (po_some (pe_op op_add (pv 7) pe_int)) po_none)) pa_nil)))) pss_nil)))))
      (pss_one (ps_ret (pv 5)))))))), ?_⟩
  cases r with
  | drop n l =>
    obtain ⟨n1, n2⟩ := hok
    refine ⟨_, rfl, a, _, 0, _, rfl, rfl, hS, rfl, rfl, _, rfl, ?_⟩
    refine ⟨_, rfl, a, _, 0, _, rfl, rfl, hS, rfl, rfl, _, rfl, ?_⟩
    refine ⟨_, rfl, a, _, 0, _, rfl, rfl, hS, rfl, rfl, _, rfl, ?_⟩
    refine ⟨_, rfl, _, rfl, hz, _, rfl, a, _, 1, _, rfl, rfl, hS, rfl, _, _, rfl, rfl, _, _, rfl, rfl, _, _, rfl, ?_⟩
    have hm : (if ((tx x).length : Int) - (n : Nat) + 1 > 0 then ((tx x).length : Int) - (n : Nat) + 1 else 0).toNat = x.length + 1 - n := by
      rw [tx_len]
      split <;> omega
    refine ⟨_, rfl, a, _, 2, _, rfl, rfl, hS, rfl, _, l, rfl, by split <;> omega, by rw [tx_len]; split <;> omega, fun H1 p e1 npl hp => ?_⟩
    rw [hm] at hp
    refine ⟨_, rfl, p, rfl, ⟨_, .of hp⟩, fun Dk nD => ?_⟩
    refine lc_it (walk_list (xs := (plc (x.length + 1 - n) l).map iv)) (LcP H1 Dk fun i => ((resOf L x (.drop n l)).take i).map wv) (.start nD rfl) (fun _ H2 _ p' => .of (p'.1 _ _ hp)) (fun i v H2 H3 hi p' y => ?_) fun H2 p' => ?_
    · obtain ⟨rfl, g⟩ := y
      rw [List.getElem?_map] at g
      obtain ⟨k, gk, rfl⟩ := Option.map_eq_some_iff.mp g
      have hkl := plc_mem (List.mem_of_getElem? gk)
      refine ⟨rfl, _, rfl, _, rfl, _, rfl, _, rfl, hz, _, rfl, _, rfl, _, rfl, a, _, 1, _, rfl, rfl, sqT_ext (e1.trans p'.1) hS, rfl, _, _, rfl, rfl, _, rfl, _, rfl, hz, ?_⟩
      rw [cutS_to, show (some ((k : Int) + (n : Int)) : Option Int) = some (((k + n : Nat)) : Int) by rw [Int.natCast_add], cutS_from]
      refine ⟨_, _, rfl, rfl, sl2 (by rw [tx_len, tx_len, List.length_take, List.length_drop]; omega), ?_⟩
      rw [tx_app]
      refine p'.add nD (.refl _) (map_take_succ wv (resOf L x (.drop n l)) (x := x.take k ++ x.drop (k + n)) ?_) ?_
      · show ((plc (x.length + 1 - n) l).map _)[i]? = _
        rw [List.getElem?_map, gk]
        rfl
      · rw [List.length_map, List.length_take]
        omega
    · refine q _ Dk (e1.trans p'.1) (e1.free nD) ?_
      rw [p'.2]
      show some (HO.lst (((resOf L x (.drop n l)).take ((plc (x.length + 1 - n) l).map iv).length).map wv)) = _
      rw [List.take_of_length_le]
      show ((plc (x.length + 1 - n) l).map _).length ≤ _
      rw [List.length_map, List.length_map]
      omega
  | half l =>
    have hm : ((tx x).length : Int) / 2 = ((x.length / 2 : Nat) : Int) := by rw [tx_len]; omega
    refine ⟨_, rfl, a, _, 0, _, rfl, rfl, hS, rfl, rfl, _, rfl, ?_⟩
    refine ⟨_, rfl, a, _, 0, _, rfl, rfl, hS, rfl, rfl, _, rfl, ?_⟩
    refine ⟨_, rfl, _, rfl, hz, _, _, rfl, rfl, ⟨by decide, by decide⟩, ?_⟩
    refine ⟨_, rfl, a, _, 1, _, rfl, rfl, hS, rfl, rfl, _, rfl, ?_⟩
    cases l
    · refine ⟨_, rfl, _, rfl, _, rfl, hz, _, rfl, _, _, rfl, rfl, _, rfl, _, rfl, hz, ?_⟩
      rw [show (some (((tx x).length : Int) - ((tx x).length : Int) / 2) : Option Int) = some (((x.length - x.length / 2 : Nat)) : Int) by rw [hm, tx_len]; congr 1; omega, cutS_from]
      refine ⟨sl2 (by show (1 : Nat) ≤ 5000; decide), fun p np => q _ p (same_upd np) np ?_⟩
      rw [upd_same]
      rfl
    · refine ⟨_, rfl, _, rfl, _, rfl, _, rfl, hz, ?_⟩
      rw [hm, cutS_to]
      refine ⟨sl2 (by show (1 : Nat) ≤ 5000; decide), fun p np => q _ p (same_upd np) np ?_⟩
      rw [upd_same]
      rfl
  | empty =>
    refine ⟨_, rfl, a, _, 0, _, rfl, rfl, hS, rfl, rfl, _, rfl, ?_⟩
    refine ⟨sl2 (by show (1 : Nat) ≤ 5000; decide), fun p np => q _ p (same_upd np) np ?_⟩
    rw [upd_same]
    rfl
  | lower l =>
    refine ⟨_, rfl, a, _, 0, _, rfl, rfl, hS, rfl, rfl, _, rfl, ?_⟩
    refine ⟨_, rfl, a, _, 0, _, rfl, rfl, hS, rfl, rfl, _, rfl, ?_⟩
    refine ⟨_, rfl, a, _, 0, _, rfl, rfl, hS, rfl, rfl, _, rfl, ?_⟩
    obtain ⟨ls, hls, hA⟩ := hlt
    refine ⟨by decide, fun pf npf => ?_⟩
    have s1 := same_upd (o := .lst []) npf
    refine ⟨_, rfl, pl, ls, rfl, .inr (sqT_ext s1 hls.sq), fun pq npq => ?_⟩
    have s2 := s1.trans (same_upd (o := .lst ls) npq)
    obtain ⟨ps, prs, els, g2, g3⟩ := DK.merge (M := []) (kvs := []) (dpA_ext s2 _ _ hA) trivial (by rw [List.nil_append]; exact hL.nd)
    refine ⟨pq, ps, prs, rfl, .of (by rw [upd_same, els]), g2, fun pd npd => ⟨_, _, rfl, ?_⟩⟩
    have s3 := s2.trans (same_upd (o := .dK (mergeK [] prs)) npd)
    have hd3 : (upd (upd (upd H pf (.lst [])) pq (.lst ls)) pd (.dK (mergeK [] prs))) pd = some (.dK (mergeK [] prs)) := upd_same
    have hk3 := (show DK K _ _ L from g3).ext (same_upd (o := .dK (mergeK [] prs)) npd)
    have hf3 : (upd (upd (upd H pf (.lst [])) pq (.lst ls)) pd (.dK (mergeK [] prs))) pf = some (.lst []) := same_upd npd _ _ (same_upd npq _ _ upd_same)
    generalize upd (upd (upd H pf (.lst [])) pq (.lst ls)) pd (.dK (mergeK [] prs)) = H3 at s3 hd3 hk3 hf3
    have hm : (((tx x).length : Nat) : Int).toNat = x.length := by rw [tx_len]; omega
    refine ⟨_, rfl, _, rfl, hz, _, rfl, _, rfl, a, _, -1, _, rfl, rfl, sqT_ext s3 hS, rfl, _, l, rfl, by omega, by rw [tx_len]; omega, fun H4 p e4 np hp => ?_⟩
    rw [hm] at hp
    have s4 := s3.trans e4
    have hpf : p ≠ pf := fun z => by rw [z, hf3] at np; cases np
    have hf4 := e4 _ _ hf3
    refine ⟨p, rfl, ⟨_, .of hp⟩, ?_⟩
    refine for_it (walk_list (xs := (plc x.length l).map iv)) (fun i σ H5 => Same H4 H5 ∧ ∃ (pf' : Addr) (vk : Option V), σ = [some (.ref pl), some (.ref a), some (wv x), none, none, some (.ref pf'), some (.ref pd), vk, none] ∧ H5 pf' = some (.lst ((((plc x.length l).take i).flatMap (lowK L x)).map wv)) ∧ H pf' = none)
      ⟨.refl _, pf, _, rfl, hf4, npf⟩ (fun _ _ _ _ p5 => .of (p5.1 _ _ hp)) (fun i v σ H5 H6 hi p5 y => ?_) fun σ H5 p5 => ?_
    · obtain ⟨e5, pf', vk, rfl, hf5, hn5⟩ := p5
      obtain ⟨rfl, g⟩ := y
      rw [List.getElem?_map] at g
      obtain ⟨k, gk, rfl⟩ := Option.map_eq_some_iff.mp g
      have hkl := plc_mem (List.mem_of_getElem? gk)
      have hxk : x[k]? = some (x.getD k 0) := by rw [List.getD_eq_getElem?_getD, List.getElem?_eq_getElem hkl]; rfl
      have hcn : x.getD k 0 ∈ names L := hx.1 _ (List.mem_of_getElem? hxk)
      have e35 := e4.trans e5
      obtain ⟨b, g5, g6⟩ := (hk3.ext e35).find hcn hL.nd
      have hl4 := hL.lsLen hcn
      have hil : i < x.length := by rw [List.length_map, plc_len] at hi; exact hi
      have hprev : (((plc x.length l).take i).flatMap (lowK L x)).length ≤ 4 * min i x.length := by
        have := lts_len L hL hx.1 ((plc x.length l).take i) fun y hy => plc_mem (List.mem_of_mem_take hy)
        rw [List.length_take, plc_len] at this
        exact this
      have h5 : (lowK L x k).length ≤ 4 := by
        unfold lowK
        rw [List.length_map]
        exact hl4
      refine ⟨_, rfl, a, _, 0, _, rfl, rfl, sqT_ext (s4.trans e5) hS, rfl, rfl, _, rfl, ?_⟩
      refine ⟨_, rfl, _, rfl, _, rfl, _, rfl, _, _, _, rfl, rfl, hz, atI_nat (by rw [tx_cps]; exact hxk), pd, _, rfl, dgetL (e35 _ _ hd3) g5, b, rfl, ⟨_, g6⟩, fun Dk nD => ?_⟩
      refine lc_it (walk_tup (xs := (lsOf L (x.getD k 0)).map lv)) (LcP H6 Dk fun j => ((lowK L x k).take j).map wv) (.start nD rfl) (fun _ H7 _ p7 => sqT_ext p7.1 g6) (fun j v H7 H8 hj p7 y2 => ?_) fun H7 p7 => ?_
      · obtain ⟨rfl, gj⟩ := y2
        rw [List.getElem?_map] at gj
        obtain ⟨c, gc, rfl⟩ := Option.map_eq_some_iff.mp gj
        refine ⟨rfl, _, rfl, _, rfl, _, rfl, _, rfl, hz, ?_⟩
        rw [cutS_to]
        refine ⟨_, rfl, _, _, rfl, rfl, sl2 (by show (tx (x.take k)).length + (tx [c]).length ≤ 5000; rw [tx_len, tx_len, List.length_take]; simp; omega), ?_⟩
        refine ⟨_, rfl, _, rfl, _, _, rfl, rfl, _, rfl, _, rfl, hz, ?_⟩
        rw [show (some ((k : Int) + 1) : Option Int) = some (((k + 1 : Nat)) : Int) by rw [Int.natCast_add]; rfl, cutS_from, tx_app]
        refine ⟨_, _, rfl, rfl, sl2 (by rw [tx_len, tx_len, List.length_drop, List.length_append, List.length_take]; simp; omega), ?_⟩
        rw [tx_app, List.append_assoc]
        refine p7.add nD (.refl _) (map_take_succ wv (lowK L x k) (x := x.take k ++ ([c] ++ x.drop (k + 1))) (by
          unfold lowK
          rw [List.getElem?_map, gc]
          rfl)) ?_
        rw [List.length_map, List.length_take]
        omega
      · have hD7 : H7 Dk = some (.lst ((lowK L x k).map wv)) := by
          rw [p7.2]
          show some (HO.lst (((lowK L x k).take ((lsOf L (x.getD k 0)).map lv).length).map wv)) = _
          rw [show (lowK L x k).take ((lsOf L (x.getD k 0)).map lv).length = lowK L x k from List.take_of_length_le (by unfold lowK; rw [List.length_map, List.length_map]; exact Nat.le_refl _)]
        refine ⟨pf', Dk, _, _, rfl, rfl, p7.1 _ _ hf5, hD7, by rw [List.length_map, List.length_map, sizeLine_eq]; omega, fun p8 np8 => ?_⟩
        refine ⟨e5.trans (p7.1.trans (same_upd np8)), p8, _, rfl, ?_, ((s4.trans e5).trans p7.1).free np8⟩
        rw [upd_same, List.take_add_one, gk, List.flatMap_append, List.map_append]
        simp
    · obtain ⟨e5, pf', vk, rfl, hf5, hn5⟩ := p5
      refine ⟨_, rfl, q _ pf' (s4.trans e5) hn5 ?_⟩
      rw [hf5, List.length_map, List.take_length]
      rfl
  | put c y l =>
    obtain ⟨hc, ⟨hy1, hy2⟩, hy3⟩ := hok
    refine ⟨_, rfl, a, _, 0, _, rfl, rfl, hS, rfl, rfl, _, rfl, ?_⟩
    refine ⟨_, rfl, a, _, 0, _, rfl, rfl, hS, rfl, rfl, _, rfl, ?_⟩
    refine ⟨_, rfl, a, _, 0, _, rfl, rfl, hS, rfl, rfl, _, rfl, ?_⟩
    obtain ⟨ls, hls, hA⟩ := hlt
    refine ⟨by decide, fun pf npf => ?_⟩
    have s1 := same_upd (o := .lst []) npf
    refine ⟨_, rfl, pl, ls, rfl, .inr (sqT_ext s1 hls.sq), fun pq npq => ?_⟩
    have s2 := s1.trans (same_upd (o := .lst ls) npq)
    obtain ⟨ps, prs, els, g2, g3⟩ := DK.merge (M := []) (kvs := []) (dpA_ext s2 _ _ hA) trivial (by rw [List.nil_append]; exact hL.nd)
    refine ⟨pq, ps, prs, rfl, .of (by rw [upd_same, els]), g2, fun pd npd => ⟨_, _, rfl, ?_⟩⟩
    have s3 := s2.trans (same_upd (o := .dK (mergeK [] prs)) npd)
    have hd3 : (upd (upd (upd H pf (.lst [])) pq (.lst ls)) pd (.dK (mergeK [] prs))) pd = some (.dK (mergeK [] prs)) := upd_same
    have hk3 := (show DK K _ _ L from g3).ext (same_upd (o := .dK (mergeK [] prs)) npd)
    have hf3 : (upd (upd (upd H pf (.lst [])) pq (.lst ls)) pd (.dK (mergeK [] prs))) pf = some (.lst []) := same_upd npd _ _ (same_upd npq _ _ upd_same)
    generalize upd (upd (upd H pf (.lst [])) pq (.lst ls)) pd (.dK (mergeK [] prs)) = H3 at s3 hd3 hk3 hf3
    have hm : (((tx x).length : Nat) : Int).toNat = x.length := by rw [tx_len]; omega
    refine ⟨_, rfl, _, rfl, hz, _, rfl, _, rfl, a, _, -1, _, rfl, rfl, sqT_ext s3 hS, rfl, _, l, rfl, by omega, by rw [tx_len]; omega, fun H4 p e4 np hp => ?_⟩
    rw [hm] at hp
    have s4 := s3.trans e4
    have hpf : p ≠ pf := fun z => by rw [z, hf3] at np; cases np
    have hf4 := e4 _ _ hf3
    refine ⟨p, rfl, ⟨_, .of hp⟩, ?_⟩
    refine for_it (walk_list (xs := (plc x.length l).map iv)) (fun i σ H5 => Same H H5 ∧ H5 p = some (.lst ((plc x.length l).map iv)) ∧ H5 pf = some (.lst (((((plc x.length l).take i).filter fun k => x.getD k 0 == c).map fun k => x.take k ++ (y ++ x.drop (k + 1))).map wv)) ∧ ∃ (vk : Option V), σ = [some (.ref pl), some (.ref a), some (wv x), none, none, some (.ref pf), some (.ref pd), vk, none])
      ⟨s4, hp, hf4, _, rfl⟩ (fun _ _ _ _ p5 => .of p5.2.1) (fun i v σ H5 H6 hi p5 yy => ?_) fun σ H5 p5 => ?_
    · obtain ⟨e5, hp5, hf5, vk, rfl⟩ := p5
      obtain ⟨rfl, g⟩ := yy
      rw [List.getElem?_map] at g
      obtain ⟨k, gk, rfl⟩ := Option.map_eq_some_iff.mp g
      have hkl := plc_mem (List.mem_of_getElem? gk)
      have hxk : x[k]? = some (x.getD k 0) := by rw [List.getD_eq_getElem?_getD, List.getElem?_eq_getElem hkl]; rfl
      have hS5 := sqT_ext e5 hS
      refine ⟨_, rfl, a, _, 0, _, rfl, rfl, hS5, rfl, rfl, _, rfl, ?_⟩
      refine ⟨_, rfl, _, rfl, _, _, _, rfl, rfl, hz, atI_nat (by rw [tx_cps]; exact hxk), _, rfl, a, _, 1, _, rfl, rfl, hS5, rfl, rfl, _, rfl, ?_⟩
      by_cases he : x.getD k 0 = c
      · refine iteD (by rw [he]; rfl) ?_
        refine ⟨_, rfl, .inl ⟨rfl, _, .of hf5⟩, _, rfl, _, rfl, _, rfl, _, rfl, hz, ?_⟩
        rw [cutS_to]
        refine ⟨_, rfl, a, _, 2, _, rfl, rfl, hS5, rfl, _, _, rfl, rfl, sl2 (by show (tx (x.take k)).length + (tx y).length ≤ 5000; rw [tx_len, tx_len, List.length_take]; omega), ?_⟩
        refine ⟨_, rfl, _, rfl, _, _, rfl, rfl, _, rfl, _, rfl, hz, ?_⟩
        rw [show (some ((k : Int) + 1) : Option Int) = some (((k + 1 : Nat)) : Int) by rw [Int.natCast_add]; rfl, cutS_from, tx_app]
        refine ⟨_, _, rfl, rfl, sl2 (by rw [tx_len, tx_len, List.length_drop, List.length_append, List.length_take]; omega), ?_⟩
        rw [tx_app, List.append_assoc]
        have hfl := List.length_filter_le (fun k => x.getD k 0 == c) ((plc x.length l).take i)
        rw [List.length_take, plc_len] at hfl
        refine ⟨pf, _, _, rfl, rfl, hf5, by rw [List.length_map, List.length_map, sizeLine_eq]; omega, same_put e5 npf, by rw [upd_ne hpf]; exact hp5, ?_, _, rfl⟩
        rw [upd_same, fm_take _ _ _ gk, if_pos (by simpa using he)]
        rfl
      · refine iteDN (fun z => he (List.cons.inj (tx_inj (V.str.inj z))).1) ?_
        refine ⟨e5, hp5, ?_, _, rfl⟩
        rw [hf5, fm_take _ _ _ gk, if_neg (by simpa using he), List.append_nil]
    · obtain ⟨e5, hp5, hf5, vk, rfl⟩ := p5
      refine ⟨_, rfl, q _ pf e5 npf ?_⟩
      rw [hf5, List.length_map, List.take_length]
      rfl
theorem h_law_steps (D : Def K mg "_law_steps" s_law_steps [] []) (h__law_results : Has P w K mg base "_law_results" [] 2 (spLresults K)) : Has P w K mg base "_law_steps" [] 3 (spLsteps K) := by
  refine has_of D sc_law_steps (fun vs H Q E h => by obtain ⟨_, _, _, _, rfl, _⟩ := h; rfl) (fun _ _ _ _ _ _ us hl => match us, hl with | [_, _], _ => rfl) fun f cdv A outer s H vs Q E hr h => ?_
  obtain ⟨b, L, R, x, rfl, ⟨pl, rr, hS, hlt, ⟨vr, hrs, hrA⟩⟩, hL, hok, hR, hx, q⟩ := h
  have hrl : vr.length = R.length := by rw [dpA_len hrA, List.length_map]
  refine ⟨_, (pss_cons (ps_set (i := 2) sc_law_steps.nd rfl (Or.inl rfl) (pe_lst pa_nil))
      (pss_cons (ps_for PassesOwn.never rfl (pi_tup (pe_ix ix_tup (pv 0) pe_int (fun _ _ => rfl))) (pg_name (i := 3) sc_law_steps.nd rfl (Or.inl rfl)) (pss_one (ps_for PassesOwn.never rfl (pi_list (pe_has h__law_results (hr.mono (by decide)) rfl (pa_cons (pe_ix ix_tup (pv 0) pe_int (fun _ _ => rfl)) (pa_cons (pv 3) (pa_cons (pv 1) pa_nil))))) (pg_name (i := 4) sc_law_steps.nd rfl (Or.inl rfl)) (pss_one (ps_if (PW.pt (pw_and (pt_cmpR op_ne (pv 4) (pv 1) (nomark _)) (pw_and1 (pt_cmpR op_notIn_seq (pv 4) (pv 2) rfl)))) (pss_one (ps_expr (pe_bm PySem.F.plainAttrs_list PySem.F.slot_list_append PySem.F.type_list_append mt_append (pv 2) (pa_cons (pv 4) pa_nil)))) pss_nil)))))
      (pss_one (ps_ret (pe_tupleOf rfl B.tuple_ (pv 2)))))), ?_⟩
  refine ⟨by decide, fun pf npf => ?_⟩
  have s1 := same_upd (o := .lst []) npf
  refine ⟨_, rfl, b, _, 1, _, rfl, rfl, sqT_ext s1 hS, rfl, rr, rfl, ⟨_, sqT_ext s1 hrs⟩, ?_⟩
  refine for_it (walk_tup (xs := vr)) (fun i σ H2 => Same H H2 ∧ H2 pf = some (.lst ((addNot x [] ((R.take i).flatMap (resOf L x))).map wv)) ∧ ∃ u1 u2, σ = [some (.ref b), some (wv x), some (.ref pf), u1, u2]) ⟨s1, upd_same, _, _, rfl⟩ (fun _ _ _ _ p => sqT_ext p.1 hrs) (fun i v σ H2 H3 hi p y => ?_) fun σ H2 p => ?_
  · obtain ⟨e2, hf2, u1, u2, rfl⟩ := p
    obtain ⟨rfl, g⟩ := y
    obtain ⟨r, a, hr1, rfl, ha, hm⟩ := dR_at hrA e2 g
    refine ⟨_, rfl, b, _, 0, _, rfl, rfl, sqT_ext e2 hS, rfl, _, rfl, _, rfl, pl, a, L, r, x, rfl, hlt.ext e2, hL, ha, hok r hm, hx, fun H4 p e4 npp hp => ?_⟩
    refine ⟨p, rfl, ⟨_, .of hp⟩, ?_⟩
    have hrl' := resOf_len hL hx (hok r hm)
    have hpf : p ≠ pf := fun z => by rw [z, hf2] at npp; cases npp
    have h2 : ((R.take i).flatMap (resOf L x)).length ≤ 100 * (R.take i).length := flatMap_len _ _ _ fun r' hr' => resOf_len hL hx (hok r' (List.mem_of_mem_take hr'))
    rw [List.length_take] at h2
    refine for_it (walk_list (xs := (resOf L x r).map wv)) (fun j σ H5 => Same H H5 ∧ H5 p = some (.lst ((resOf L x r).map wv)) ∧ H5 pf = some (.lst ((addNot x [] ((R.take i).flatMap (resOf L x) ++ (resOf L x r).take j)).map wv)) ∧ ∃ u1 u2, σ = [some (.ref b), some (wv x), some (.ref pf), u1, u2])
      ⟨e2.trans e4, hp, by rw [List.take_zero, List.append_nil]; exact e4 _ _ hf2, _, _, rfl⟩ (fun _ _ _ _ p' => .of p'.2.1) (fun j v σ H5 H6 hj p' y => ?_) fun σ H5 p' => ?_
    · obtain ⟨e5, hp5, hf5, u1, u2, rfl⟩ := p'
      obtain ⟨rfl, g⟩ := y
      rw [List.getElem?_map] at g
      obtain ⟨z, gz, rfl⟩ := Option.map_eq_some_iff.mp g
      have hlen := addNot_len x [] ((R.take i).flatMap (resOf L x) ++ (resOf L x r).take j)
      rw [List.length_append, List.length_take, List.length_nil] at hlen
      have hstep : addNot x [] ((R.take i).flatMap (resOf L x) ++ (resOf L x r).take (j + 1)) = if z ≠ x ∧ z ∉ addNot x [] ((R.take i).flatMap (resOf L x) ++ (resOf L x r).take j) then addNot x [] ((R.take i).flatMap (resOf L x) ++ (resOf L x r).take j) ++ [z] else addNot x [] ((R.take i).flatMap (resOf L x) ++ (resOf L x r).take j) := by
        rw [List.take_add_one, gz, ← List.append_assoc, show (some z).toList = [z] from rfl, addNot_snoc]
      refine ⟨_, rfl, _, rfl, rfl, _, rfl, ?_⟩
      by_cases hzx : z = x
      · refine iteNS (by rw [hzx]) ?_
        refine ⟨e5, hp5, ?_, _, _, rfl⟩
        rw [hstep, if_neg (fun w => w.1 hzx)]
        exact hf5
      · refine iteNT (fun w => hzx (tx_inj (V.str.inj w))) ?_
        refine ⟨_, rfl, _, rfl, pf, _, rfl, .inl (.of hf5), rfl, flat_wv _, _, rfl, ?_⟩
        rw [inV_wv]
        by_cases hm2 : z ∈ addNot x [] ((R.take i).flatMap (resOf L x) ++ (resOf L x r).take j)
        · rw [decide_eq_true hm2]
          refine ⟨e5, hp5, ?_, _, _, rfl⟩
          rw [hstep, if_neg (fun w => w.2 hm2)]
          exact hf5
        · rw [decide_eq_false hm2]
          refine ⟨_, rfl, .inl ⟨rfl, _, .of hf5⟩, _, rfl, pf, _, _, rfl, rfl, hf5, by rw [List.length_map, sizeLine_eq]; omega, same_put e5 npf, by rw [upd_ne hpf]; exact hp5, ?_, _, _, rfl⟩
          rw [upd_same, hstep, if_pos ⟨hzx, hm2⟩, List.map_append]
          rfl
    · obtain ⟨e5, hp5, hf5, u1, u2, rfl⟩ := p'
      refine ⟨e5, ?_, _, _, rfl⟩
      rw [hf5, List.length_map, List.take_length, List.take_add_one, hr1, List.flatMap_append]
      simp
  · obtain ⟨e2, hf2, u1, u2, rfl⟩ := p
    refine ⟨_, rfl, .inl ⟨pf, _, rfl, .of hf2, fun p1 np1 => q _ p1 (e2.trans (same_upd np1)) (.of ?_)⟩⟩
    rw [upd_same, stp_law, hrl, List.take_length]
    rfl
omit B in
theorem h_law_mirrored (D : Def K mg "_law_mirrored" s_law_mirrored [] []) : Has P w K mg base "_law_mirrored" [] 1 (spMirR K) := by
  refine has_of D sc_law_mirrored (fun vs H Q E h => by obtain ⟨_, _, rfl, _⟩ := h; rfl) (fun _ _ _ _ _ _ us hl => match us, hl with | [_], _ => rfl) fun f cdv A outer s H vs Q E hr h => ?_
  obtain ⟨a, r, rfl, hS, q⟩ := h
  refine ⟨_, (pss_cons (ps_if (pt_cmpR op_eq (pe_ix ix_tup (pv 0) pe_int (fun _ _ => rfl)) pe_str (nomark _)) (pss_one (ps_ret (pv 0))) pss_nil)
      (pss_one (ps_ret (pe_op op_catS (pe_slice sl_tupS (pv 0) po_none (po_some (pe_un un_neg pe_int))) (pe_tup (pa_cons (pe_ifExp (pt_cmpR op_eq (pe_ix ix_tup (pv 0) (pe_un un_neg pe_int) (fun _ _ => rfl)) pe_str (nomark _)) pe_str pe_str) pa_nil)))))), ?_⟩
  cases r with
  | empty => exact ⟨_, rfl, a, _, 0, _, rfl, rfl, hS, rfl, rfl, _, rfl, ⟨_, rfl, q _ a (.refl _) hS⟩⟩
  | drop n l =>
    refine ⟨_, rfl, a, _, 0, _, rfl, rfl, hS, rfl, rfl, _, rfl, ?_⟩
    refine ⟨_, rfl, _, rfl, _, rfl, a, _, rfl, hS, fun p H1 e1 hp => ?_⟩
    rw [cutV_init] at hp
    refine ⟨_, rfl, _, rfl, a, _, -1, _, rfl, rfl, sqT_ext e1 hS, rfl, rfl, _, rfl, ?_⟩
    cases l
    · exact ⟨sl2 (by show (1 : Nat) ≤ 5000; decide), fun p' np => ⟨p, p', _, _, rfl, rfl, sqT_ext (same_upd np) hp, .of upd_same, by show (3 : Nat) ≤ 5000; decide, fun p2 H2 e2 h2 => q _ p2 (e1.trans ((same_upd np).trans e2)) h2⟩⟩
    · exact ⟨sl2 (by show (1 : Nat) ≤ 5000; decide), fun p' np => ⟨p, p', _, _, rfl, rfl, sqT_ext (same_upd np) hp, .of upd_same, by show (3 : Nat) ≤ 5000; decide, fun p2 H2 e2 h2 => q _ p2 (e1.trans ((same_upd np).trans e2)) h2⟩⟩
  | half l =>
    refine ⟨_, rfl, a, _, 0, _, rfl, rfl, hS, rfl, rfl, _, rfl, ?_⟩
    refine ⟨_, rfl, _, rfl, _, rfl, a, _, rfl, hS, fun p H1 e1 hp => ?_⟩
    rw [cutV_init] at hp
    refine ⟨_, rfl, _, rfl, a, _, -1, _, rfl, rfl, sqT_ext e1 hS, rfl, rfl, _, rfl, ?_⟩
    cases l
    · exact ⟨sl2 (by show (1 : Nat) ≤ 5000; decide), fun p' np => ⟨p, p', _, _, rfl, rfl, sqT_ext (same_upd np) hp, .of upd_same, by show (2 : Nat) ≤ 5000; decide, fun p2 H2 e2 h2 => q _ p2 (e1.trans ((same_upd np).trans e2)) h2⟩⟩
    · exact ⟨sl2 (by show (1 : Nat) ≤ 5000; decide), fun p' np => ⟨p, p', _, _, rfl, rfl, sqT_ext (same_upd np) hp, .of upd_same, by show (2 : Nat) ≤ 5000; decide, fun p2 H2 e2 h2 => q _ p2 (e1.trans ((same_upd np).trans e2)) h2⟩⟩
  | lower l =>
    refine ⟨_, rfl, a, _, 0, _, rfl, rfl, hS, rfl, rfl, _, rfl, ?_⟩
    refine ⟨_, rfl, _, rfl, _, rfl, a, _, rfl, hS, fun p H1 e1 hp => ?_⟩
    rw [cutV_init] at hp
    refine ⟨_, rfl, _, rfl, a, _, -1, _, rfl, rfl, sqT_ext e1 hS, rfl, rfl, _, rfl, ?_⟩
    cases l
    · exact ⟨sl2 (by show (1 : Nat) ≤ 5000; decide), fun p' np => ⟨p, p', _, _, rfl, rfl, sqT_ext (same_upd np) hp, .of upd_same, by show (2 : Nat) ≤ 5000; decide, fun p2 H2 e2 h2 => q _ p2 (e1.trans ((same_upd np).trans e2)) h2⟩⟩
    · exact ⟨sl2 (by show (1 : Nat) ≤ 5000; decide), fun p' np => ⟨p, p', _, _, rfl, rfl, sqT_ext (same_upd np) hp, .of upd_same, by show (2 : Nat) ≤ 5000; decide, fun p2 H2 e2 h2 => q _ p2 (e1.trans ((same_upd np).trans e2)) h2⟩⟩
  | put c x l =>
    refine ⟨_, rfl, a, _, 0, _, rfl, rfl, hS, rfl, rfl, _, rfl, ?_⟩
    refine ⟨_, rfl, _, rfl, _, rfl, a, _, rfl, hS, fun p H1 e1 hp => ?_⟩
    rw [cutV_init] at hp
    refine ⟨_, rfl, _, rfl, a, _, -1, _, rfl, rfl, sqT_ext e1 hS, rfl, rfl, _, rfl, ?_⟩
    cases l
    · exact ⟨sl2 (by show (1 : Nat) ≤ 5000; decide), fun p' np => ⟨p, p', _, _, rfl, rfl, sqT_ext (same_upd np) hp, .of upd_same, by show (4 : Nat) ≤ 5000; decide, fun p2 H2 e2 h2 => q _ p2 (e1.trans ((same_upd np).trans e2)) h2⟩⟩
    · exact ⟨sl2 (by show (1 : Nat) ≤ 5000; decide), fun p' np => ⟨p, p', _, _, rfl, rfl, sqT_ext (same_upd np) hp, .of upd_same, by show (4 : Nat) ≤ 5000; decide, fun p2 H2 e2 h2 => q _ p2 (e1.trans ((same_upd np).trans e2)) h2⟩⟩
end
end Fk

set_option Elab.async false
set_option linter.all false
set_option maxRecDepth 100000
set_option maxHeartbeats 4000000
/-! Fk P: what is known of the data that are shown and compared. -/
namespace Fk
open PySem PySem.Spec PyProof.Rows L2
structure Nc (d : PyData) (dep bk : Nat) : Prop where
  lay : d.canLay0 = true
  sh : d.showable = true
  dp : d.depth ≤ dep
  lf : d.leavesShort 13 = true
  bk : d.bulk ≤ bk
theorem Nc.mono {d : PyData} {dep bk dep' bk' : Nat} (h : Nc d dep bk) (h1 : dep ≤ dep') (h2 : bk ≤ bk') : Nc d dep' bk' := ⟨h.lay, h.sh, Nat.le_trans h.dp h1, h.lf, Nat.le_trans h.bk h2⟩
theorem Nc.eqv {d : PyData} {dep bk : Nat} (h : Nc d dep bk) : PyData.eqv d d = true := SeqAt.eqv_refl d h.lay
theorem Nc.shaped {d : PyData} {dep bk : Nat} (h : Nc d dep bk) (hd : dep ≤ 64) : SeqAt.shaped d = true := by
  unfold SeqAt.shaped
  rw [h.lay, decide_eq_true (Nat.le_trans h.dp hd)]
  rfl
theorem Nc.noDict {d : PyData} {dep bk : Nat} (h : Nc d dep bk) : d.hasDict = false := PyData.hasDict_of_canLay d h.lay
theorem Nc.fits {d : PyData} {dep bk : Nat} (h : Nc d dep bk) (hb : bk ≤ 2 ^ 20) : d.shown.length ≤ sizeLine := PyData.shown_fits_bulk (B := 13) (by decide) (by decide) h.lf (Nat.le_trans h.bk hb)
theorem Nc.str {x : Wd} (h : ∀ c ∈ x, lower26 c) : Nc (dW x) 0 x.length where
  lay := lay_str h
  sh := by unfold dW; rw [PyData.showable]
  dp := Nat.le_refl _
  lf := by
    unfold dW
    rw [PyData.leavesShort, tx_cps]
    simp only [List.all_eq_true, decide_eq_true_eq]
    intro c hc
    have := (h c hc).2
    omega
  bk := by
    unfold dW
    rw [PyData.bulk]
    simp [tx]
theorem Nc.bool (b : Bool) : Nc (.bool b) 0 0 := ⟨rfl, by rw [PyData.showable], Nat.le_refl _, by rw [PyData.leavesShort], by rw [PyData.bulk]; exact Nat.le_refl _⟩
theorem Nc.nat {n : Nat} (h : n ≤ 100) : Nc (.int (n : Nat)) 0 0 where
  lay := rfl
  sh := by
    rw [PyData.showable, decide_eq_true_eq]
    have : ((n : Nat) : Int).natAbs = n := by omega
    rw [this]
    exact Nat.lt_of_le_of_lt (Nat.log2_le_self n) (by omega)
  dp := Nat.le_refl _
  lf := by
    rw [PyData.leavesShort, decide_eq_true_eq]
    refine PyData.shown_int_le ?_
    have : ((n : Nat) : Int).natAbs = n := by omega
    rw [this]
    omega
  bk := by rw [PyData.bulk]; exact Nat.le_refl _
theorem ncA {dep bk : Nat} : ∀ {ds : List PyData}, (∀ d ∈ ds, Nc d dep bk) → PyData.canLayAll0 ds = true ∧ PyData.showableAll ds = true ∧ PyData.depthAll ds ≤ dep ∧ PyData.leavesShortAll 13 ds = true ∧ PyData.bulkAll ds ≤ ds.length * (bk + 1)
  | [], _ => ⟨by rw [PyData.canLayAll0], by rw [PyData.showableAll], by rw [PyData.depthAll]; exact Nat.zero_le _, by rw [PyData.leavesShortAll], by rw [PyData.bulkAll]; exact Nat.zero_le _⟩
  | d :: ds, h => by
    obtain ⟨h1, h2, h3, h4, h5⟩ := ncA (ds := ds) fun x hx => h x (List.mem_cons_of_mem _ hx)
    have hd := h d List.mem_cons_self
    refine ⟨?_, ?_, ?_, ?_, ?_⟩
    · rw [PyData.canLayAll0, hd.lay, h1]
      rfl
    · rw [PyData.showableAll, hd.sh, h2]
      rfl
    · rw [PyData.depthAll]
      exact Nat.max_le.mpr ⟨hd.dp, h3⟩
    · rw [PyData.leavesShortAll, hd.lf, h4]
      rfl
    · rw [PyData.bulkAll, List.length_cons, Nat.succ_mul]
      have := hd.bk
      omega
theorem Nc.tup {ds : List PyData} {dep bk : Nat} (h : ∀ d ∈ ds, Nc d dep bk) : Nc (.tuple ds) (dep + 1) (ds.length * (bk + 1)) := by
  obtain ⟨h1, h2, h3, h4, h5⟩ := ncA h
  exact ⟨by rw [PyData.canLay0]; exact h1, by rw [PyData.showable]; exact h2, by rw [PyData.depth]; omega, by rw [PyData.leavesShort]; exact h4, by rw [PyData.bulk]; exact h5⟩
theorem Nc.lst {ds : List PyData} {dep bk : Nat} (h : ∀ d ∈ ds, Nc d dep bk) : Nc (.list ds) (dep + 1) (ds.length * (bk + 1)) := by
  obtain ⟨h1, h2, h3, h4, h5⟩ := ncA h
  exact ⟨by rw [PyData.canLay0]; exact h1, by rw [PyData.showable]; exact h2, by rw [PyData.depth]; omega, by rw [PyData.leavesShort]; exact h4, by rw [PyData.bulk]; exact h5⟩
theorem Nc.sd (l : Bool) : Nc (.str (sd l)) 0 21 := by
  cases l <;> exact ⟨by decide +kernel, by rw [PyData.showable], Nat.zero_le _, by decide +kernel, by decide +kernel⟩
theorem nc_drop : Nc (.str "drop") 0 21 := ⟨by decide +kernel, by rw [PyData.showable], Nat.zero_le _, by decide +kernel, by decide +kernel⟩
theorem nc_half : Nc (.str "half") 0 21 := ⟨by decide +kernel, by rw [PyData.showable], Nat.zero_le _, by decide +kernel, by decide +kernel⟩
theorem nc_empty : Nc (.str "empty") 0 21 := ⟨by decide +kernel, by rw [PyData.showable], Nat.zero_le _, by decide +kernel, by decide +kernel⟩
theorem nc_lower : Nc (.str "lower") 0 21 := ⟨by decide +kernel, by rw [PyData.showable], Nat.zero_le _, by decide +kernel, by decide +kernel⟩
theorem nc_put : Nc (.str "put") 0 21 := ⟨by decide +kernel, by rw [PyData.showable], Nat.zero_le _, by decide +kernel, by decide +kernel⟩
theorem low1 {c : Nat} (h : lower26 c) : ∀ d ∈ [c], lower26 d := fun d hd => by
  rw [List.mem_singleton] at hd
  rw [hd]
  exact h
theorem nc_rule {L : Lts} (hL : LOk L) {r : Rl} (h : ROk L r) : Nc (dR r) 1 100 := by
  have mk : ∀ ds : List PyData, (∀ d ∈ ds, Nc d 0 21) → ds.length ≤ 4 → Nc (.tuple ds) 1 100 := fun ds hd hl => (Nc.tup hd).mono (Nat.le_refl _) (by omega)
  cases r with
  | drop n l =>
    refine mk _ (fun d hd => ?_) (by simp)
    simp only [List.mem_cons, List.not_mem_nil, or_false] at hd
    rcases hd with rfl | rfl | rfl
    · exact nc_drop
    · exact (Nc.nat h.2).mono (Nat.le_refl _) (by omega)
    · exact .sd l
  | half l =>
    refine mk _ (fun d hd => ?_) (by simp)
    simp only [List.mem_cons, List.not_mem_nil, or_false] at hd
    rcases hd with rfl | rfl
    · exact nc_half
    · exact .sd l
  | empty =>
    refine mk _ (fun d hd => ?_) (by simp)
    simp only [List.mem_cons, List.not_mem_nil, or_false] at hd
    rw [hd]
    exact nc_empty
  | lower l =>
    refine mk _ (fun d hd => ?_) (by simp)
    simp only [List.mem_cons, List.not_mem_nil, or_false] at hd
    rcases hd with rfl | rfl
    · exact nc_lower
    · exact .sd l
  | put c w l =>
    obtain ⟨h1, ⟨h2, h3⟩, h4⟩ := h
    refine mk _ (fun d hd => ?_) (by simp)
    simp only [List.mem_cons, List.not_mem_nil, or_false] at hd
    rcases hd with rfl | rfl | rfl | rfl
    · exact nc_put
    · exact (Nc.str (low1 (hL.nameLow h1))).mono (Nat.le_refl _) (by simp)
    · exact (Nc.str fun d hd => hL.nameLow (h2 d hd)).mono (Nat.le_refl _) (by omega)
    · exact .sd l
theorem nc_entry {L : Lts} (hL : LOk L) {e : Nat × List Nat} (he : e ∈ L) : Nc (dE e) 2 100 := by
  have h4 := hL.lsLen (c := e.1) (List.mem_map_of_mem he)
  rw [lsOf_mem hL.nd he] at h4
  refine ((Nc.tup (dep := 1) (bk := 8) fun d hd => ?_).mono (Nat.le_refl _) (by simp) : Nc (.tuple [dW [e.1], .tuple (e.2.map fun c => dW [c])]) 2 100)
  simp only [List.mem_cons, List.not_mem_nil, or_false] at hd
  rcases hd with rfl | rfl
  · exact (Nc.str (low1 (hL.low e he))).mono (by omega) (by simp)
  · refine (Nc.tup (dep := 0) (bk := 1) fun d hd => ?_).mono (Nat.le_refl _) (by rw [List.length_map]; omega)
    obtain ⟨c, hc, rfl⟩ := List.mem_map.mp hd
    exact (Nc.str (low1 (hL.nameLow ((hL.les e he).2 c hc)))).mono (Nat.le_refl _) (by simp)
theorem nc_book {L : Lts} {R : List Rl} (hL : LOk L) (hR : ∀ r ∈ R, ROk L r) (hl : R.length ≤ 100) : Nc (dB L R) 4 30000 := by
  refine ((Nc.tup (dep := 3) (bk := 12000) fun d hd => ?_).mono (Nat.le_refl _) (by simp) : Nc (.tuple [dL L, dRs R]) 4 30000)
  simp only [List.mem_cons, List.not_mem_nil, or_false] at hd
  have h4 := hL.len
  rcases hd with rfl | rfl
  · refine (Nc.tup (dep := 2) (bk := 100) fun d hd => ?_).mono (by omega) (by rw [List.length_map]; omega)
    obtain ⟨e, he, rfl⟩ := List.mem_map.mp hd
    exact nc_entry hL he
  · refine (Nc.tup (dep := 1) (bk := 100) fun d hd => ?_).mono (by omega) (by rw [List.length_map]; omega)
    obtain ⟨r, hr, rfl⟩ := List.mem_map.mp hd
    exact nc_rule hL (hR r hr)
/-! ### results are words of the letters -/
theorem res_mem {L : Lts} {x : Wd} {r : Rl} (hL : LOk L) (hx : WOk L x) (hr : ROk L r) {y : Wd} (hy : y ∈ resOf L x r) : (∀ c ∈ y, c ∈ names L) ∧ y.length ≤ 60 := by
  have hx2 := hx.2
  have tk : ∀ k, ∀ c ∈ x.take k, c ∈ names L := fun k c hc => hx.1 c (List.mem_of_mem_take hc)
  have dp : ∀ k, ∀ c ∈ x.drop k, c ∈ names L := fun k c hc => hx.1 c (List.mem_of_mem_drop hc)
  cases r with
  | drop n l =>
    obtain ⟨k, _, rfl⟩ := List.mem_map.mp hy
    refine ⟨fun c hc => ?_, by rw [List.length_append, List.length_take, List.length_drop]; omega⟩
    rcases List.mem_append.mp hc with z | z
    · exact tk _ c z
    · exact dp _ c z
  | half l =>
    rw [show resOf L x (.half l) = [if l then x.take (x.length / 2) else x.drop (x.length - x.length / 2)] from rfl, List.mem_singleton] at hy
    subst hy
    cases l
    · exact ⟨fun c hc => dp _ c hc, by rw [if_neg (by simp), List.length_drop]; omega⟩
    · exact ⟨fun c hc => tk _ c hc, by rw [if_pos rfl, List.length_take]; omega⟩
  | empty =>
    rw [show resOf L x .empty = [[]] from rfl, List.mem_singleton] at hy
    subst hy
    exact ⟨fun c hc => (nomatch hc), by decide⟩
  | lower l =>
    obtain ⟨k, hk, hy⟩ := List.mem_flatMap.mp hy
    obtain ⟨d, hd, rfl⟩ := List.mem_map.mp hy
    have hkl := plc_mem hk
    have hxk : x.getD k 0 ∈ names L := hx.1 _ (by rw [List.getD_eq_getElem?_getD, List.getElem?_eq_getElem hkl]; exact List.getElem_mem hkl)
    refine ⟨fun c hc => ?_, by rw [List.length_append, List.length_append, List.length_take, List.length_drop]; simp; omega⟩
    rcases List.mem_append.mp hc with z | z
    · exact tk _ c z
    · rcases List.mem_append.mp z with z | z
      · rw [List.mem_singleton] at z
        rw [z]
        exact hL.lsNames hxk hd
      · exact dp _ c z
  | put c0 w l =>
    obtain ⟨h1, ⟨h2, h3⟩, h4⟩ := hr
    obtain ⟨k, _, rfl⟩ := List.mem_map.mp hy
    refine ⟨fun c hc => ?_, by rw [List.length_append, List.length_append, List.length_take, List.length_drop]; omega⟩
    rcases List.mem_append.mp hc with z | z
    · exact tk _ c z
    · rcases List.mem_append.mp z with z | z
      · exact h2 c z
      · exact dp _ c z
theorem addNot_mem (x : Wd) : ∀ {acc l : List Wd} {y : Wd}, y ∈ addNot x acc l → y ∈ acc ∨ y ∈ l
  | acc, [], y, h => .inl h
  | acc, z :: l, y, h => by
    have h' : y ∈ (if z ≠ x ∧ z ∉ acc then addNot x (acc ++ [z]) l else addNot x acc l) := h
    by_cases hz : z ≠ x ∧ z ∉ acc
    · rw [if_pos hz] at h'
      rcases addNot_mem x h' with w | w
      · rcases List.mem_append.mp w with w | w
        · exact .inl w
        · rw [List.mem_singleton] at w
          exact .inr (List.mem_cons.mpr (.inl w))
      · exact .inr (List.mem_cons_of_mem _ w)
    · rw [if_neg hz] at h'
      rcases addNot_mem x h' with w | w
      · exact .inl w
      · exact .inr (List.mem_cons_of_mem _ w)
theorem nc_steps {L : Lts} {R : List Rl} {x : Wd} (hL : LOk L) (hR : ∀ r ∈ R, ROk L r) (hl : R.length ≤ 100) (hx : WOk L x) : Nc (.tuple ((stp L R x).map dW)) 1 (2 ^ 20) := by
  refine (Nc.tup (dep := 0) (bk := 60) fun d hd => ?_).mono (Nat.le_refl _) ?_
  · obtain ⟨y, hy, rfl⟩ := List.mem_map.mp hd
    rw [stp_law] at hy
    rcases addNot_mem x hy with h | h
    · cases h
    · obtain ⟨r, hr, hy2⟩ := List.mem_flatMap.mp h
      obtain ⟨h1, h2⟩ := res_mem hL hx (hR r hr) hy2
      exact (Nc.str fun c hc => hL.nameLow (h1 c hc)).mono (Nat.le_refl _) h2
  · rw [List.length_map, stp_law]
    have h1 := addNot_len x [] (allRes L R x)
    have h2 : (allRes L R x).length ≤ 100 * R.length := flatMap_len _ _ _ fun r hr => resOf_len hL hx (hR r hr)
    rw [List.length_nil] at h1
    have : (addNot x [] (allRes L R x)).length ≤ 10000 := by omega
    omega
end Fk

set_option Elab.async false
set_option linter.all false
set_option maxRecDepth 100000
set_option maxHeartbeats 4000000
/-! Fk R: t[::-1] of a tuple of four items. -/
namespace Fk
open PySem PySem.Spec PyProof.Rows L2
section
variable {prog : Program} {w : World} {A : Around} {E : Value → Shared → Prop} {s : Shared}
theorem sliceApplied_rev4 {sl : Addr} {vl vu vk : Value} {Q : Int × Int × Nat → Shared → Prop} (hs : s.heap.IsSliceOf sl vl vu vk) (pl : IsPart vl none) (pu : IsPart vu none) (pk : IsPart vk (some (-1)))
    (h : Q (3, -1, 4) s) : wpAny (model prog w) A (Builtin.Slice.sliceApplied (.ref sl) (pure (4 : Int))) Q E s := by
  obtain ⟨os, hos, hcs, hds⟩ := id hs
  unfold Builtin.Slice.sliceApplied Builtin.Slice.sliceFields
  refine wpAny_bind (wpAny_bind (wpAny_field hos hds (x := vl) rfl (wpAny_bind (wpAny_field hos hds (x := vu) rfl (wpAny_bind (wpAny_field hos hds (x := vk) rfl (wpAny_pure ?_)))))))
  refine wpAny_bind (HT.slicePart_ pk ?_)
  show wpAny _ _ (if ((-1 : Int) == 0) = true then _ else _) _ _ s
  rw [if_neg (by decide)]
  refine wpAny_bind (HT.slicePart_ pl (wpAny_bind (HT.slicePart_ pu (wpAny_bind (wpAny_pure ?_)))))
  show wpAny _ _ (match Builtin.Slice.sliceAdjust none none (-1) (4 : Int) with | (lo, hi) => pure (lo, (-1 : Int), Builtin.Slice.slicePlaces lo hi (-1))) _ _ s
  exact wpAny_pure h
theorem getItem_tuple_rev4 {t sl : Addr} {a b c d : Value} {vl vu vk : Value} {Q : Value → Shared → Prop} (ht : IsTup s.heap t #[a, b, c, d]) (hs : s.heap.IsSliceOf sl vl vu vk) (pl : IsPart vl none) (pu : IsPart vu none) (pk : IsPart vk (some (-1)))
    (h : Q (.ref s.heap.objs.size) { s with heap := s.heap.push { cls := .type "tuple", data := .seq #[d, c, b, a] } }) : wpAny (model prog w) A (getItem (.ref t) (.ref sl)) Q E s := by
  have htake : sizeOk (.seq #[d, c, b, a]) := by
    show (4 : Nat) ≤ sizeLine
    decide
  obtain ⟨os, hos, hcs, hds⟩ := id hs
  have hTs : s.TypeIs (.ref sl) "slice" := ⟨os, hos, hcs⟩
  unfold getItem
  try with_reducible refine wpAny_holding ?_
  first | refine wpAny_bind (wpAny_pure ?_) | skip
  refine wpAny_bind (wpAny_sequenceKey ht.typeIs (by decide) ?_)
  refine wpAny_bind (wpAny_callSpecial?_slot (name := Str.ofString "__getitem__") ht.typeIs PyProof.Rows.slot_tuple_getitem
    (wpAny_call_entry PyProof.Rows.slot_tuple_getitem ht.typeIs entry_tuple_getitem ?_ (args_tuple_getitem _ _)))
  show wpAny _ _ (Builtin.Tuple.tupleItemsOf (.ref t) >>= _) _ _ s
  refine wpAny_bind (tupleItemsOf_ ht ?_)
  refine wpAny_bind (wpAny_typeOf hTs ?_)
  rw [if_pos (by decide)]
  refine wpAny_bind (sliceApplied_rev4 hs pl pu pk ?_)
  show wpAny _ _ (if ((3 : Int) == 0 && (-1 : Int) == 1 && (4 : Nat) == 4) = true then _ else _) _ _ s
  rw [if_neg (by decide)]
  first
    | exact wpAny_bind (m := Builtin.Tuple.tupleExact _) (wpAny_newObj_type (wpAny_pure ⟨_, rfl, wpAny_pure h⟩) htake)
    | exact wpAny_bind (m := Builtin.Tuple.tupleExact _) (wpAny_newObj_type (wpAny_bind (wpAny_pure (wpAny_pure ⟨_, rfl, wpAny_pure h⟩))) htake)
    | exact wpAny_bind (wpAny_bind (m := Builtin.Tuple.tupleExact _) (wpAny_newObj_type (wpAny_pure (wpAny_pure ⟨_, rfl, wpAny_pure h⟩)) htake))
    | exact wpAny_bind (wpAny_bind (m := Builtin.Tuple.tupleExact _) (wpAny_newObj_type (wpAny_pure ⟨_, rfl, wpAny_pure h⟩) htake))
end
section
variable {X : Cx}
def tRevT4 (K : PySem.W.Frag) (te : TE) : TE := fun σ H Q => te σ H fun x H1 => ∃ a v0 v1 v2 v3, x = .ref a ∧ SqT K H1 a [v0, v1, v2, v3] ∧ ∀ p, H1 p = none → Q (.ref p) (upd H1 p (.tup [v3, v2, v1, v0]))
theorem vals4 {v0 v1 v2 v3 : V} {us : List Value} (r : Vals [v0, v1, v2, v3] us) : ∃ u0 u1 u2 u3, us = [u0, u1, u2, u3] ∧ RelV v0 u0 ∧ RelV v1 u1 ∧ RelV v2 u2 ∧ RelV v3 u3 := by
  cases r with
  | cons r0 r => cases r with
    | cons r1 r => cases r with
      | cons r2 r => cases r with
        | cons r3 r =>
          cases r
          exact ⟨_, _, _, _, rfl, r0, r1, r2, r3⟩
theorem pe_revT4 {e : Expr} {te : TE} {k : Nat} {p1 p2 p3 pos : Pos} (he : PE X e te) : PE X (.Subscript e (.Slice none none (some (.UnaryOp .USub (.Constant (.int 1) k p1) p2)) p3) pos) (tRevT4 X.K te) := by
  refine ⟨fun pins s σ H Q I h => ?_⟩
  refine Subscript_ (thn (he.run pins s σ H _ I h) fun v s1 ⟨x, H1, I1, r1, q1⟩ => ?_)
  obtain ⟨a, v0, v1, v2, v3, ex, hx, q⟩ := q1
  subst ex
  cases r1
  have hst : PO X (some (.UnaryOp .USub (.Constant (.int 1) k p1) p2)) (tPart (tUn (rU fun i => .int (-i)) (tC (.int 1)))) := po_some (pe_un un_neg pe_int)
  refine wpAny_Slice (thn (po_none.run pins s1 σ H1 (fun o H2 => o = none ∧ H2 = H1) I1 ⟨rfl, rfl⟩) fun vl s2 ⟨l, H2, I2, pl, el, e2⟩ => ?_)
  subst el e2
  refine thn (po_none.run pins s2 σ H2 (fun o H3 => o = none ∧ H3 = H2) I2 ⟨rfl, rfl⟩) fun vu s3 ⟨u, H3, I3, pu, eu, e3⟩ => ?_
  subst eu e3
  refine thn (hst.run pins s3 σ H3 (fun o H4 => o = some (-1) ∧ H4 = H3) I3 ⟨1, rfl, -1, rfl, rfl, rfl⟩) fun vs s4 ⟨o, H4, I4, ps, eo, e4⟩ => ?_
  subst eo e4
  have I5 : Inv X pins σ H4 { s4 with heap := s4.heap.push { cls := .type "slice", data := .fields #[vl, vu, vs] } } := I4.kept (t' := s4.toks) fun b ob q => Heap.get?_push_of_some _ q
  obtain ⟨its, r, ht, hz⟩ := I5.tuple hx
  obtain ⟨u0, u1, u2, u3, rfl, r0, r1, r2, r3⟩ := vals4 r
  show wpAny (model X.prog X.w) X.A (subscriptTail e (.Slice none none (some (.UnaryOp .USub (.Constant (.int 1) k p1) p2)) p3) (.ref a) (.ref s4.heap.objs.size)) (EP X pins σ Q) X.xe { s4 with heap := s4.heap.push { cls := .type "slice", data := .fields #[vl, vu, vs] } }
  refine tail_any (ops := [.ref a, .ref s4.heap.objs.size]) ht.typeIs (PyProof.Rows.slot_tuple_getitem.lookup) ?_ (by with_unfolding_all rfl)
  refine getItem_tuple_rev4 ht (Heap.IsSliceOf.new _ vl vu vs) pl pu ps ?_
  refine ⟨.ref _, _, I5.laid (t' := s4.toks) (o := .tup [v3, v2, v1, v0]) (fun b ob q => Heap.get?_push_of_some _ q) (Nat.le_refl _) ?_, rfl, q _ (I5.hok.fresh (Nat.le_refl _))⟩
  exact ⟨by show (4 : Nat) ≤ sizeLine; decide, [u3, u2, u1, u0], .cons r3 (.cons r2 (.cons r1 (.cons r0 .nil))), ⟨_, Heap.get?_push_size _ rfl, rfl, _, rfl⟩⟩
end
end Fk

set_option Elab.async false
set_option linter.all false
set_option maxRecDepth 100000
set_option maxHeartbeats 4000000
/-! Fk W5: the law's comparisons. -/
namespace Fk
open PySem PySem.Spec PyProof.Rows L2
theorem walk_rng {n : Nat} : Walk (Itr 0 n) n (fun _ => True) (fun i H x H' => H' = H ∧ x = .int (i : Nat)) :=
  walk_range.mono (fun _ _ => trivial) fun i H x H' _ _ y => by
    obtain ⟨h1, h2⟩ := y
    refine ⟨h1, ?_⟩
    rw [h2]
    show V.int ((0 : Int) + (i : Nat)) = _
    rw [Int.zero_add]
theorem iteE {b : Bool} {A B : Prop} (h : b = true) (k : A) : if b = true then A else B := by
  rw [if_pos h]
  exact k
theorem iteNE {b : Bool} {A B : Prop} (h : b = true) (k : B) : if (!b) = true then A else B := by
  rw [h]
  exact iteF k
theorem call_reprK {X : Cx} (K : PySem.W.Frag) (h : X.K = K) (gA : X.A.guards = some []) (hu : X.A.units + 64 < cLine) : CallR X (.builtin "repr") (rRepr K) := h ▸ call_repr gA hu
theorem pe_hg {X : Cx} {x : Str} {k : Nat} {sp : Sp} {p pos : Pos} {e : Expr} {es : List Expr} {t : TA} (gA : X.A.guards = some []) (h : HasG X.prog X.w X.K X.mg X.base x k sp) (hr : Room k X.A) (hg : Gl X x) (ha : PA X (e :: es) t)
    (hdb : (x == ("__debug__" : Str)) = false := by decide) (he : starEach (e :: es) X.env = (false, eval e X.env) :: starEach es X.env := by rfl) (hpl : (backTo pos (starEach es X.env)).any (·.1) = false := by rfl) :
    PE X (.Call (.Name x p) (e :: es) [] pos) (tCall sp [] E0 t) := pe_hasG h gA hr hg ha hdb he hpl
def tCallOv (C : Addr) (sp : Sp) (i j : Nat) : TE := fun σ H Q => ∃ (a dx : Addr) (fs : List (Str × V)) (v : V), σ[i]? = some (some (.ref a)) ∧ σ[j]? = some (some v) ∧ H a = some (.ins C dx fs) ∧ sp [.ref a, v] H Q E0
theorem pe_callOv {X : Cx} {C g : Addr} {k i j : Nat} {sp : Sp} {fe e : Expr} {pos : Pos} (c : StX.CallO X.K C g) (F : FnR X.prog X.w X.K X.mg X.base CX0 k g sp) (hr : Room k X.A) (hf : PE X fe (tVar i)) (he : PE X e (tVar j))
    (ht : eval (.Call fe [e] [] pos) X.env = (do callWith pos (← eval fe X.env) [] (backTo pos (starEach [e] X.env)) (backToKw pos (keywordEach [] X.env))) := by rfl)
    (hs : starEach [e] X.env = (false, eval e X.env) :: starEach [] X.env := by rfl) : PE X (.Call fe [e] [] pos) (tCallOv C sp i j) := by
  refine ⟨fun pins s σ H Q I h => ?_⟩
  obtain ⟨a, dx, fs, v, h1, h2, h3, h4⟩ := h
  exact (StX.pe_callO (C := C) (E := E0) hf c F hr pass0 (pa_cons he pa_nil hs) ht hs rfl).run pins s σ H Q I ⟨.ref a, h1, a, rfl, v, h2, .inr ⟨dx, fs, h3⟩, h4⟩
/-- the class Book, made and called -/
def BookH (P : Program) (w : World) (K : PySem.W.Frag) (mg : Str → Option Value) (base : Heap) : Prop :=
  ∃ C, BookC K mg C ∧ (∃ f fd ps, Mk K C f ∧ FnOk P w K mg base CX0 7 f fd ps (spInit K C) ∧ Binds K fd ps []) ∧ ∃ g, StX.CallO K C g ∧ FnR P w K mg base CX0 4 g (spBcall K C)
def spAreSteps (K : PySem.W.Frag) : Sp := fun vs H Q _ => ∃ (b a : Addr) (L : Lts) (R : List Rl) (ws : List Wd), vs = [.ref b, .ref a] ∧ Bk K H b L R ∧ BOk L R ∧ SqL K H a (ws.map wv) ∧ (∀ x ∈ ws, WOk L x) ∧ ∀ H', Same H H' → Q (.bl true) H'
def spIsPut (K : PySem.W.Frag) : Sp := fun vs H Q _ => ∃ (b n a : Addr) (L : Lts) (R : List Rl) (r : Rl) (ws : List Wd), vs = [.ref b, .ref n, .ref a] ∧ Bk K H b L R ∧ BOk L R ∧ R.length ≤ 10 ∧ SqT K H n (rV r) ∧ ROk L r ∧ SqL K H a (ws.map wv) ∧ (∀ x ∈ ws, WOk L x) ∧ ∀ H', Same H H' → Q (.bl true) H'
def spIsMoved (K : PySem.W.Frag) : Sp := fun vs H Q _ => ∃ (b a : Addr) (L : Lts) (R : List Rl) (ws : List Wd), vs = [.ref b, .ref a] ∧ Bk K H b L R ∧ BOk L R ∧ SqL K H a (ws.map wv) ∧ (∀ x ∈ ws, WOk L x) ∧ ∀ H', Same H H' → Q (.bl true) H'
section
variable {P : Program} {w : World} {K : PySem.W.Frag} {mg : Str → Option Value} {base : Heap} (B : Bt K mg)
include B
theorem h_law_are_steps (D : Def K mg "_law_are_steps" s_law_are_steps [] []) (hBk : BookH P w K mg base) (h__law_steps : Has P w K mg base "_law_steps" [] 3 (spLsteps K)) : HasG P w K mg base "_law_are_steps" 9 (spAreSteps K) := by
  refine hasG_of D sc_law_are_steps (fun vs H Q E h => by obtain ⟨_, _, _, _, _, rfl, _⟩ := h; rfl) (fun _ _ _ _ _ _ us hl => match us, hl with | [_, _], _ => rfl) fun f cdv A outer s H vs Q E gA hr h => ?_
  obtain ⟨C, bc, ⟨fI, fdI, psI, hMk, hFI, hbI⟩, g, hCO, hCF⟩ := hBk
  obtain ⟨b, a, L, R, ws, rfl, hb, hB, hS, hw, q⟩ := h
  have hR := hB.len
  obtain ⟨pl, pr, hbS, hlt, hrs⟩ := id hb
  refine ⟨_, (pss_cons (ps_set (i := 2) sc_law_are_steps.nd rfl (Or.inr rfl) (pe_make hMk hFI (hr.mono (by decide)) rfl bc.glo hbI .nil pass0 (pa_cons (pe_ix ix_tup (pv 0) pe_int (fun _ _ => rfl)) (pa_cons (pe_ix ix_tup (pv 0) pe_int (fun _ _ => rfl)) pa_nil))))
      (pss_one (ps_ret (pe_cmpR (op_eqD hr.units) (pe_lc (own := [("_law_word_here", 3)]) rfl sc_law_are_steps.nd (pi_list (pv 1)) (blkOk_by (N := N_law_are_steps) (sc := defScope s_law_are_steps) (by decide +kernel)) (fun _ _ _ _ _ => (pg_name (i := 3) sc_law_are_steps.nd rfl (Or.inl rfl) (.inr rfl))) (fun _ _ _ _ _ => (pts_one (pt_cmpR op_ne (pe_callB (call_reprK K rfl gA hr.units) rfl B.repr_ (by decide +kernel) (pa_cons (pe_callOv hCO hCF (hr.mono (by decide)) (pv 2) (pv 3)) pa_nil)) (pe_callB (call_reprK K rfl gA hr.units) rfl B.repr_ (by decide +kernel) (pa_cons (pe_has h__law_steps (hr.mono (by decide)) rfl (pa_cons (pv 0) (pa_cons (pv 3) pa_nil))) pa_nil)) (nomark _)))) (fun _ _ _ _ _ => (pv 3))) (pe_lst pa_nil) (nomark _))))), ?_⟩
  refine ⟨_, rfl, b, _, 0, _, rfl, rfl, hbS, rfl, _, rfl, b, _, 1, _, rfl, rfl, hbS, rfl, fun x dx nx ndx nex => ?_⟩
  have e1 : Same H (upd (upd H dx (.own x)) x (.ins C dx [])) := same_put (same_upd ndx) nx
  refine ⟨x, pl, pr, dx, L, R, rfl, upd_same, hlt.ext e1, hrs.ext e1, hB, fun H1 b1 hp1 => ⟨rfl, ?_⟩⟩
  have e01 : Same H H1 := fun c o h => b1 c o (ne_of_none h nx) (e1 c o h)
  refine ⟨_, rfl, a, rfl, ⟨_, e01.seq hS⟩, fun Dk nD => ?_⟩
  refine lc_it (walk_list (xs := ws.map wv)) (LcP H1 Dk fun _ => []) (.start nD rfl) (fun _ H2 _ p => (e01.trans p.1).seq hS) (fun i v H2 H3 hi p y => ?_) fun H2 p => ?_
  · obtain ⟨rfl, gx⟩ := y
    rw [List.getElem?_map] at gx
    obtain ⟨z, gz, rfl⟩ := Option.map_eq_some_iff.mp gx
    have hz := hw z (List.mem_of_getElem? gz)
    have e2 := e01.trans p.1
    have nc := nc_steps hB.l hB.r (by omega) hz
    refine ⟨rfl, x, dx, _, wv z, rfl, rfl, p.1 _ _ hp1, x, pl, pr, dx, L, R, z, rfl, p.1 _ _ hp1, hlt.ext e2, hrs.ext e2, hB, hz, fun H4 q1 e4 h4 => ?_⟩
    refine ⟨q1, .tuple ((stp L R z).map dW), rfl, .tup h4 (dpA_wv _), nc.sh, nc.noDict, Nat.le_trans nc.dp (by decide), nc.fits (Nat.le_refl _), ?_⟩
    refine ⟨_, rfl, _, rfl, b, L, R, z, rfl, hb.ext (e2.trans e4), hB.l, hB.r, by omega, hz, fun H5 q2 e5 h5 => ?_⟩
    refine ⟨q2, .tuple ((stp L R z).map dW), rfl, .tup h5 (dpA_wv _), nc.sh, nc.noDict, Nat.le_trans nc.dp (by decide), nc.fits (Nat.le_refl _), rfl, _, rfl, iteNS rfl ?_⟩
    exact p.skip (e4.trans e5) rfl
  · refine ⟨by decide, fun pe npe => ⟨.list [], .list [], .lst (.of ((same_upd npe) _ _ p.2)) .nil, .lst (.of upd_same) .nil, rfl, rfl, ?_⟩⟩
    exact q _ ((e01.trans p.1).trans (same_upd npe))
omit B in
theorem BOk.ins {L : Lts} {R : List Rl} {r : Rl} {i : Nat} (h : BOk L R) (hl : R.length ≤ 19) (hr : ROk L r) : BOk L (insAt R r i) := by
  refine ⟨h.l, fun x hx => ?_, by rw [ins_len]; omega⟩
  rcases mem_ins hx with rfl | hx
  · exact hr
  · exact h.r x hx
omit B in
theorem BOk.mov {L : Lts} {R : List Rl} {r : Rl} {i j : Nat} (h : BOk L R) (hi : R[i]? = some r) : BOk L (insAt (cutAt R i) r j) := by
  have hil := (List.getElem?_eq_some_iff.mp hi).1
  have := h.len
  refine ⟨h.l, fun x hx => ?_, by rw [ins_len, cut_len hil]; omega⟩
  rcases mem_ins hx with rfl | hx
  · exact h.r _ (List.mem_of_getElem? hi)
  · exact h.r x (mem_cut hx)
omit B in
/-- a book's i-th rule -/
theorem Bk.rule {H : Hp} {b : Addr} {L : Lts} {R : List Rl} (h : Bk K H b L R) {i : Nat} {r : Rl} (hi : R[i]? = some r) : ∃ (l rr : Addr) (rs : List V) (a : Addr), SqT K H b [.ref l, .ref rr] ∧ SqT K H rr rs ∧ rs[i]? = some (.ref a) ∧ SqT K H a (rV r) ∧ rs.length = R.length := by
  obtain ⟨l, rr, hS, hlt, ⟨rs, hrs, hrA⟩⟩ := h
  obtain ⟨v, hv, hvd⟩ := dpA_get hrA (i := i) (d := dR r) (by rw [List.getElem?_map, hi]; rfl)
  obtain ⟨a, rfl, ha⟩ := dp_rule hvd
  exact ⟨l, rr, rs, a, hS, hrs, hv, ha, by rw [dpA_len hrA, List.length_map]⟩
omit B in
theorem Bk.len {H : Hp} {b : Addr} {L : Lts} {R : List Rl} (h : Bk K H b L R) : ∃ (l rr : Addr) (rs : List V), SqT K H b [.ref l, .ref rr] ∧ SqT K H rr rs ∧ rs.length = R.length := by
  obtain ⟨l, rr, hS, hlt, ⟨rs, hrs, hrA⟩⟩ := h
  exact ⟨l, rr, rs, hS, hrs, by rw [dpA_len hrA, List.length_map]⟩
omit B in
theorem h_law_is_put (Bt' : Bt K mg) (D : Def K mg "_law_is_put" s_law_is_put [] []) (h_with_rule : Has P w K mg base "with_rule" [.non] 5 (spWith K)) (hk_with_rule : HasK P w K mg base "with_rule" 2 ["at"] 5 (spWith K))
    (h_without_rule : Has P w K mg base "without_rule" [] 3 (spWithout K)) (h__law_are_steps : HasG P w K mg base "_law_are_steps" 9 (spAreSteps K)) : HasG P w K mg base "_law_is_put" 10 (spIsPut K) := by
  have B := Bt'
  refine hasG_of D sc_law_is_put (fun vs H Q E h => by obtain ⟨_, _, _, _, _, _, _, rfl, _⟩ := h; rfl) (fun _ _ _ _ _ _ us hl => match us, hl with | [_, _, _], _ => rfl) fun f cdv A outer s H vs Q E gA hr h => ?_
  obtain ⟨b, n, a, L, R, r, ws, rfl, hb, hB, hR, hn, hok, hS, hw, q⟩ := h
  have ncR := nc_rule hB.l hok
  have ncB := nc_book hB.l hB.r (by omega)
  obtain ⟨pl, rr, rs, hbS, hrsS, hrl⟩ := hb.len
  refine ⟨_, (pss_cons (ps_for PassesOwn.never rfl (pi_range1 rfl B.range_ (pa_cons (pe_op op_add (pe_callB call_len_seq rfl B.len_ (by decide +kernel) (pa_cons (pe_ix ix_tup (pv 0) pe_int (fun _ _ => rfl)) pa_nil)) pe_int) pa_nil)) (pg_name (i := 3) sc_law_is_put.nd rfl (Or.inl rfl)) (pss_cons (ps_set (i := 4) sc_law_is_put.nd rfl (Or.inl rfl) (pe_hask hk_with_rule (hr.mono (by decide)) rfl (pa_cons (pv 0) (pa_cons (pv 1) pa_nil)) (pk_cons (pv 3) pk_nil)))
      (pss_one (ps_if (PW.pt (pw_or (pt_cmpR (op_neD hr.units) (pe_ix ix_tup (pe_ix ix_tup (pv 4) pe_int (fun _ _ => rfl)) (pv 3) (fun _ _ => rfl)) (pv 1) (nomark _)) (pw_or (pt_cmpR (op_neD hr.units) (pe_has h_without_rule (hr.mono (by decide)) rfl (pa_cons (pv 4) (pa_cons (pv 3) pa_nil))) (pv 0) (nomark _)) (pw_or1 (pt_not (pt_val (pe_hg gA h__law_are_steps (hr.mono (by decide)) rfl (pa_cons (pv 4) (pa_cons (pv 2) pa_nil))))))))) pss_never pss_nil))))
      (pss_one (ps_ret (pe_chain (op_eqD hr.units) (op_eqD hr.units) (pe_has h_with_rule (hr.mono (by decide)) rfl (pa_cons (pv 0) (pa_cons (pv 1) pa_nil))) (pe_hask hk_with_rule (hr.mono (by decide)) rfl (pa_cons (pv 0) (pa_cons (pv 1) pa_nil)) (pk_cons (pe_callB call_len_seq rfl B.len_ (by decide +kernel) (pa_cons (pe_ix ix_tup (pv 0) pe_int (fun _ _ => rfl)) pa_nil)) pk_nil)) (pe_hask hk_with_rule (hr.mono (by decide)) rfl (pa_cons (pv 0) (pa_cons (pv 1) pa_nil)) (pk_cons pe_non pk_nil)))))), ?_⟩
  refine ⟨_, rfl, b, _, 1, _, rfl, rfl, hbS, rfl, rr, _, rfl, .inr hrsS, _, _, rfl, rfl, _, rfl, by omega, by omega, ?_⟩
  rw [show ((rs.length : Int) + 1).toNat = R.length + 1 by omega]
  refine for_it walk_rng (fun i σ H2 => Same H H2 ∧ ∃ u1 u2, σ = [some (.ref b), some (.ref n), some (.ref a), u1, u2]) ⟨.refl _, _, _, rfl⟩ (fun _ _ _ _ _ => trivial) (fun i v σ H2 H3 hi p y => ?_) fun σ H2 p => ?_
  · obtain ⟨e2, u1, u2, rfl⟩ := p
    obtain ⟨rfl, rfl⟩ := y
    refine ⟨_, rfl, _, rfl, _, rfl, rfl, rfl, b, n, _, L, R, r, i, rfl, hb.ext e2, hB.l, by omega, sqT_ext e2 hn, hok, .inr ⟨rfl, by omega⟩, fun H4 p4 e4 hb4 => ?_⟩
    have e24 := e2.trans e4
    obtain ⟨l4, rr4, rs4, a4, k1, k2, k3, k4, k5⟩ := hb4.rule (ins_get (r := r) (by omega : i ≤ R.length))
    refine ⟨_, rfl, p4, _, 1, _, rfl, rfl, k1, rfl, _, rfl, rr4, _, _, _, rfl, rfl, k2, atI_nat k3, _, rfl, dR r, dR r, dp_ofRule k4, dp_ofRule (sqT_ext e24 hn), ncR.shaped (by decide), ncR.shaped (by decide), _, rfl, iteNE ncR.eqv ?_⟩
    have hlen := ins_len R r i
    refine ⟨_, rfl, _, rfl, p4, L, insAt R r i, i, rfl, hb4, by omega, by omega, fun H5 p5 e5 hb5 => ?_⟩
    rw [cut_ins (by omega)] at hb5
    refine ⟨_, rfl, dB L R, dB L R, hb5.dp, (hb.ext (e24.trans e5)).dp, ncB.shaped (by decide), ncB.shaped (by decide), _, rfl, iteNE ncB.eqv ?_⟩
    refine ⟨_, rfl, _, rfl, p4, a, L, insAt R r i, ws, rfl, hb4.ext e5, hB.ins (by omega) hok, (e24.trans e5).seq hS, hw, fun H6 e6 => ⟨true, rfl, ?_⟩⟩
    exact ⟨(e24.trans e5).trans e6, _, _, rfl⟩
  · obtain ⟨e2, u1, u2, rfl⟩ := p
    have ncI := nc_book hB.l (hB.ins (i := R.length) (by omega) hok).r (by rw [ins_len]; omega)
    refine ⟨_, rfl, _, rfl, b, n, .non, L, R, r, R.length, rfl, hb.ext e2, hB.l, by omega, sqT_ext e2 hn, hok, .inl ⟨rfl, rfl⟩, fun H4 p4 e4 hb4 => ?_⟩
    have e24 := e2.trans e4
    refine ⟨_, rfl, _, rfl, _, rfl, b, _, 1, _, rfl, rfl, sqT_ext e24 hbS, rfl, rr, _, rfl, .inr (sqT_ext e24 hrsS), rfl, rfl, b, n, _, L, R, r, R.length, rfl, hb.ext e24, hB.l, by omega, sqT_ext e24 hn, hok, .inr ⟨by rw [hrl], by omega⟩, fun H5 p5 e5 hb5 => ?_⟩
    refine ⟨dB L (insAt R r R.length), dB L (insAt R r R.length), (hb4.ext e5).dp, hb5.dp, ncI.shaped (by decide), ncI.shaped (by decide), _, rfl, iteE ncI.eqv ?_⟩
    have e25 := e24.trans e5
    refine ⟨_, rfl, _, rfl, rfl, rfl, b, n, .non, L, R, r, R.length, rfl, hb.ext e25, hB.l, by omega, sqT_ext e25 hn, hok, .inl ⟨rfl, rfl⟩, fun H6 p6 e6 hb6 => ?_⟩
    refine ⟨dB L (insAt R r R.length), dB L (insAt R r R.length), (hb5.ext e6).dp, hb6.dp, ncI.shaped (by decide), ncI.shaped (by decide), ?_⟩
    have hq := q _ (e25.trans e6)
    rw [← ncI.eqv] at hq
    exact hq
omit B in
theorem h_law_is_moved (Bt' : Bt K mg) (D : Def K mg "_law_is_moved" s_law_is_moved [] []) (h_moved_rule : Has P w K mg base "moved_rule" [] 3 (spMoved K)) (h_without_rule : Has P w K mg base "without_rule" [] 3 (spWithout K))
    (h__law_are_steps : HasG P w K mg base "_law_are_steps" 9 (spAreSteps K)) : HasG P w K mg base "_law_is_moved" 10 (spIsMoved K) := by
  have B := Bt'
  refine hasG_of D sc_law_is_moved (fun vs H Q E h => by obtain ⟨_, _, _, _, _, rfl, _⟩ := h; rfl) (fun _ _ _ _ _ _ us hl => match us, hl with | [_, _], _ => rfl) fun f cdv A outer s H vs Q E gA hr h => ?_
  obtain ⟨b, a, L, R, ws, rfl, hb, hB, hS, hw, q⟩ := h
  have hR := hB.len
  have ncB := nc_book hB.l hB.r (by omega)
  obtain ⟨pl, rr, rs, hbS, hrsS, hrl⟩ := hb.len
  refine ⟨_, (pss_cons (ps_for PassesOwn.never rfl (pi_range1 rfl B.range_ (pa_cons (pe_callB call_len_seq rfl B.len_ (by decide +kernel) (pa_cons (pe_ix ix_tup (pv 0) pe_int (fun _ _ => rfl)) pa_nil)) pa_nil)) (pg_name (i := 2) sc_law_is_moved.nd rfl (Or.inl rfl)) (pss_cons (ps_for PassesOwn.never rfl (pi_range1 rfl B.range_ (pa_cons (pe_callB call_len_seq rfl B.len_ (by decide +kernel) (pa_cons (pe_ix ix_tup (pv 0) pe_int (fun _ _ => rfl)) pa_nil)) pa_nil)) (pg_name (i := 3) sc_law_is_moved.nd rfl (Or.inl rfl)) (pss_cons (ps_set (i := 4) sc_law_is_moved.nd rfl (Or.inl rfl) (pe_has h_moved_rule (hr.mono (by decide)) rfl (pa_cons (pv 0) (pa_cons (pv 2) (pa_cons (pv 3) pa_nil)))))
      (pss_cons (ps_if (PW.pt (pw_or (pt_cmpR (op_neD hr.units) (pe_ix ix_tup (pe_ix ix_tup (pv 4) pe_int (fun _ _ => rfl)) (pv 3) (fun _ _ => rfl)) (pe_ix ix_tup (pe_ix ix_tup (pv 0) pe_int (fun _ _ => rfl)) (pv 2) (fun _ _ => rfl)) (nomark _)) (pw_or1 (pt_cmpR (op_neD hr.units) (pe_has h_moved_rule (hr.mono (by decide)) rfl (pa_cons (pv 4) (pa_cons (pv 3) (pa_cons (pv 2) pa_nil)))) (pv 0) (nomark _))))) pss_never pss_nil)
      (pss_one (ps_if (pt_cmpR (op_neD hr.units) (pe_has h_without_rule (hr.mono (by decide)) rfl (pa_cons (pv 4) (pa_cons (pv 3) pa_nil))) (pe_has h_without_rule (hr.mono (by decide)) rfl (pa_cons (pv 0) (pa_cons (pv 2) pa_nil))) (nomark _)) pss_never pss_nil)))))
      (pss_one (ps_if (pt_not (pt_val (pe_hg gA h__law_are_steps (hr.mono (by decide)) rfl (pa_cons (pe_has h_moved_rule (hr.mono (by decide)) rfl (pa_cons (pv 0) (pa_cons (pv 2) (pa_cons pe_int pa_nil)))) (pa_cons (pv 1) pa_nil))))) pss_never pss_nil))))
      (pss_one (ps_ret pe_bl))), ?_⟩
  refine ⟨_, rfl, b, _, 1, _, rfl, rfl, hbS, rfl, rr, _, rfl, .inr hrsS, _, rfl, by omega, by omega, ?_⟩
  rw [show ((rs.length : Nat) : Int).toNat = R.length by omega]
  refine for_it walk_rng (fun i σ H2 => Same H H2 ∧ ∃ u1 u2 u3, σ = [some (.ref b), some (.ref a), u1, u2, u3]) ⟨.refl _, _, _, _, rfl⟩ (fun _ _ _ _ _ => trivial) (fun i v σ H2 H3 hi p y => ?_) fun σ H2 p => ?_
  · obtain ⟨e2, u1, u2, u3, rfl⟩ := p
    obtain ⟨rfl, rfl⟩ := y
    obtain ⟨r, hri⟩ : ∃ r, R[i]? = some r := ⟨R[i], List.getElem?_eq_getElem hi⟩
    have hok := hB.r r (List.mem_of_getElem? hri)
    have ncR := nc_rule hB.l hok
    refine ⟨_, rfl, b, _, 1, _, rfl, rfl, sqT_ext e2 hbS, rfl, rr, _, rfl, .inr (sqT_ext e2 hrsS), _, rfl, by omega, by omega, ?_⟩
    rw [show ((rs.length : Nat) : Int).toNat = R.length by omega]
    refine for_it walk_rng (fun j σ H4 => Same H H4 ∧ ∃ u2 u3, σ = [some (.ref b), some (.ref a), some (.int (i : Nat)), u2, u3]) ⟨e2, _, _, rfl⟩ (fun _ _ _ _ _ => trivial) (fun j v σ H4 H5 hj p y => ?_) fun σ H4 p => ?_
    · obtain ⟨e4, u2, u3, rfl⟩ := p
      obtain ⟨rfl, rfl⟩ := y
      have hcl := cut_len hi
      refine ⟨_, rfl, _, rfl, _, rfl, b, L, R, i, j, r, rfl, hb.ext e4, by omega, hri, hj, fun H6 p6 e6 hb6 => ?_⟩
      have e46 := e4.trans e6
      have hjl : j ≤ (cutAt R i).length := by omega
      have hl6 : (insAt (cutAt R i) r j).length = R.length := by rw [ins_len, hcl]; omega
      obtain ⟨l6, rr6, rs6, a6, k1, k2, k3, k4, k5⟩ := hb6.rule (ins_get (r := r) hjl)
      obtain ⟨l7, rr7, rs7, a7, m1, m2, m3, m4, m5⟩ := (hb.ext e46).rule hri
      refine ⟨_, rfl, p6, _, 1, _, rfl, rfl, k1, rfl, _, rfl, rr6, _, _, _, rfl, rfl, k2, atI_nat k3, ?_⟩
      refine ⟨_, rfl, b, _, 1, _, rfl, rfl, m1, rfl, _, rfl, rr7, _, _, _, rfl, rfl, m2, atI_nat m3, ?_⟩
      refine ⟨dR r, dR r, dp_ofRule k4, dp_ofRule m4, ncR.shaped (by decide), ncR.shaped (by decide), _, rfl, iteNE ncR.eqv ?_⟩
      refine ⟨_, rfl, _, rfl, _, rfl, p6, L, insAt (cutAt R i) r j, j, i, r, rfl, hb6, by omega, ins_get hjl, by omega, fun H7 p7 e7 hb7 => ?_⟩
      rw [cut_ins hjl, ins_cut hri] at hb7
      refine ⟨_, rfl, dB L R, dB L R, hb7.dp, (hb.ext (e46.trans e7)).dp, ncB.shaped (by decide), ncB.shaped (by decide), _, rfl, iteNE ncB.eqv ?_⟩
      refine ⟨_, rfl, _, rfl, p6, L, insAt (cutAt R i) r j, j, rfl, hb6.ext e7, by omega, by omega, fun H8 p8 e8 hb8 => ?_⟩
      rw [cut_ins hjl] at hb8
      have e48 := (e46.trans e7).trans e8
      refine ⟨_, rfl, _, rfl, b, L, R, i, rfl, hb.ext e48, by omega, hi, fun H9 p9 e9 hb9 => ?_⟩
      have ncC := nc_book hB.l (fun x hx => hB.r x (mem_cut (i := i) hx)) (by omega)
      refine ⟨dB L (cutAt R i), dB L (cutAt R i), (hb8.ext e9).dp, hb9.dp, ncC.shaped (by decide), ncC.shaped (by decide), _, rfl, iteNE ncC.eqv ?_⟩
      exact ⟨e48.trans e9, _, _, rfl⟩
    · obtain ⟨e4, u2, u3, rfl⟩ := p
      refine ⟨_, rfl, _, rfl, b, L, R, i, 0, r, rfl, hb.ext e4, by omega, hri, by omega, fun H6 p6 e6 hb6 => ?_⟩
      have e46 := e4.trans e6
      refine ⟨_, rfl, p6, a, L, insAt (cutAt R i) r 0, ws, rfl, hb6, hB.mov hri, e46.seq hS, hw, fun H7 e7 => ⟨true, rfl, ?_⟩⟩
      exact ⟨e46.trans e7, _, _, _, rfl⟩
  · obtain ⟨e2, u1, u2, u3, rfl⟩ := p
    exact q _ e2
end
end Fk

set_option Elab.async false
set_option linter.all false
set_option maxRecDepth 100000
set_option maxHeartbeats 4000000
/-! Fk W6: by hand; the law. -/
namespace Fk
open PySem PySem.Spec PyProof.Rows L2
theorem pe_hg0 {X : Cx} {x : Str} {k : Nat} {sp : Sp} {p pos : Pos} (gA : X.A.guards = some []) (h : HasG X.prog X.w X.K X.mg X.base x k sp) (hr : Room k X.A) (hg : Gl X x) (hdb : (x == ("__debug__" : Str)) = false := by decide) :
    PE X (.Call (.Name x p) [] [] pos) (tCall sp [] E0 tNil) := pe_hasG0 h gA hr hg hdb
def R4 : List Rl := [.drop 7 false, .put 98 [97, 97, 97, 97, 98] false, .lower true, .half false]
def R10 : List Rl := R4 ++ [.drop 30 true, .drop 1 true] ++ R4.reverse
def L1 : Lts := [(97, []), (98, [97])]
def L2' : Lts := [(97, []), (98, [])]
def W4 : List Wd := [[97, 98, 98, 97, 97, 98, 98, 97, 98], [98, 98, 98, 98, 98, 98, 98, 98, 98, 98, 98, 98], [97, 98], []]
theorem l1_ok : LOk L1 where
  low := by unfold L1 lower26; decide
  asc := by decide
  les := by unfold L1 names; decide
  rank := ⟨fun c => c, by unfold L1; decide⟩
  len := by decide
theorem l2_ok : LOk L2' where
  low := by unfold L2' lower26; decide
  asc := by decide
  les := by unfold L2' names; decide
  rank := ⟨fun c => c, by unfold L2'; decide⟩
  len := by decide
theorem rok_of {L : Lts} (hn : names L = [97, 98]) : ∀ r ∈ R10, ROk L r := by
  have h : ∀ r ∈ R10, match r with
    | .drop n _ => 1 ≤ n ∧ n ≤ 100
    | .put c w _ => c ∈ [97, 98] ∧ (∀ d ∈ w, d ∈ [97, 98]) ∧ w.length ≤ 20 ∧ w ≠ [c]
    | _ => True := by
    intro r hr
    simp only [R10, R4, List.mem_append, List.mem_cons, List.not_mem_nil, or_false, List.mem_reverse] at hr
    rcases hr with ((rfl | rfl | rfl | rfl) | rfl | rfl) | rfl | rfl | rfl | rfl <;> simp
  intro r hr
  have := h r hr
  cases r with
  | drop n l => exact this
  | put c w l => exact ⟨by rw [hn]; exact this.1, ⟨fun d hd => by rw [hn]; exact this.2.1 d hd, this.2.2.1⟩, this.2.2.2⟩
  | _ => trivial
theorem b1_ok : BOk L1 R10 := ⟨l1_ok, rok_of rfl, by decide⟩
theorem b2_ok : BOk L2' R10 := ⟨l2_ok, rok_of rfl, by decide⟩
theorem w4_ok {L : Lts} (hn : names L = [97, 98]) : ∀ x ∈ W4, WOk L x := by
  have h : ∀ x ∈ W4, (∀ c ∈ x, c ∈ [97, 98]) ∧ x.length ≤ 20 := by unfold W4; decide
  intro x hx
  exact ⟨fun c hc => by rw [hn]; exact (h x hx).1 c hc, (h x hx).2⟩
theorem w4_eq : [V.str "abbaabbab", V.str "bbbbbbbbbbbb", V.str "ab", V.str ""] = W4.map wv := by decide +kernel
theorem put_eq : [V.str "put", V.str "b", V.str "aaaab", V.str "right"] = rV (.put 98 [97, 97, 97, 97, 98] false) := by decide +kernel
theorem d7_eq : [V.str "drop", V.int 7, V.str "right"] = rV (.drop 7 false) := by decide +kernel
theorem d30_eq : [V.str "drop", V.int 30, V.str "left"] = rV (.drop 30 true) := by decide +kernel
theorem d1_eq : [V.str "drop", V.int 1, V.str "left"] = rV (.drop 1 true) := by decide +kernel
theorem lw_eq : [V.str "lower", V.str "left"] = rV (.lower true) := by decide +kernel
theorem hf_eq : [V.str "half", V.str "right"] = rV (.half false) := by decide +kernel
theorem a_eq : V.str "a" = lv 97 := by decide +kernel
theorem b_eq : V.str "b" = lv 98 := by decide +kernel
theorem sqT_as {K : PySem.W.Frag} {H : Hp} {p : Addr} {xs ys : List V} (h : SqT K H p xs) (e : xs = ys) : SqT K H p ys := e ▸ h
theorem sqL_as {K : PySem.W.Frag} {H : Hp} {p : Addr} {xs ys : List V} (h : SqL K H p xs) (e : xs = ys) : SqL K H p ys := e ▸ h
def spFar : Sp := fun vs H Q _ => vs = [] ∧ ∀ H', Same H H' → Q (.bl true) H'
section
variable {P : Program} {w : World} {K : PySem.W.Frag} {mg : Str → Option Value} {base : Heap} (B : Bt K mg)
theorem h_law_are_far (D : Def K mg "_law_are_far" s_law_are_far [] []) (h__law_are_steps : HasG P w K mg base "_law_are_steps" 9 (spAreSteps K)) : HasG P w K mg base "_law_are_far" 10 spFar := by
  refine hasG_of D sc_law_are_far (fun vs H Q E h => by obtain ⟨rfl, _⟩ := h; rfl) (fun _ _ _ _ _ _ us hl => match us, hl with | [], _ => rfl) fun f cdv A outer s H vs Q E gA hr h => ?_
  obtain ⟨rfl, q⟩ := h
  refine ⟨_, (pss_cons (ps_set (i := 0) sc_law_are_far.nd rfl (Or.inl rfl) (pe_tup (pa_cons (pe_tup (pa_cons pe_str (pa_cons pe_int (pa_cons pe_str pa_nil)))) (pa_cons (pe_tup (pa_cons pe_str (pa_cons pe_str (pa_cons pe_str (pa_cons pe_str pa_nil))))) (pa_cons (pe_tup (pa_cons pe_str (pa_cons pe_str pa_nil))) (pa_cons (pe_tup (pa_cons pe_str (pa_cons pe_str pa_nil))) pa_nil))))))
      (pss_cons (ps_set (i := 0) sc_law_are_far.nd rfl (Or.inl rfl) (pe_op op_catS (pe_op op_catS (pv 0) (pe_tup (pa_cons (pe_tup (pa_cons pe_str (pa_cons pe_int (pa_cons pe_str pa_nil)))) (pa_cons (pe_tup (pa_cons pe_str (pa_cons pe_int (pa_cons pe_str pa_nil)))) pa_nil)))) (pe_revT4 (pv 0))))
      (pss_cons (ps_par (i := 1) (j := 2) rfl sc_law_are_far.nd rfl rfl (by decide) rfl rfl (pa_cons (pe_tup (pa_cons (pe_tupP (pa_cons (pe_tup (pa_cons pe_str (pa_cons (pe_tup pa_nil) pa_nil))) (pa_cons (pe_tup (pa_cons pe_str (pa_cons (pe_tup (pa_cons pe_str pa_nil)) pa_nil))) pa_nil))) (pa_cons (pv 0) pa_nil))) (pa_cons (pe_tup (pa_cons (pe_tupP (pa_cons (pe_tup (pa_cons pe_str (pa_cons (pe_tup pa_nil) pa_nil))) (pa_cons (pe_tup (pa_cons pe_str (pa_cons (pe_tup pa_nil) pa_nil))) pa_nil))) (pa_cons (pv 0) pa_nil))) pa_nil)) rfl)
      (pss_cons (ps_set (i := 3) sc_law_are_far.nd rfl (Or.inl rfl) (pe_lst (pa_cons pe_str (pa_cons pe_str (pa_cons pe_str (pa_cons pe_str pa_nil))))))
      (pss_one (ps_ret (pe_and (pe_hg gA h__law_are_steps (hr.mono (by decide)) rfl (pa_cons (pv 1) (pa_cons (pv 3) pa_nil))) (pe_and (pe_hg gA h__law_are_steps (hr.mono (by decide)) rfl (pa_cons (pv 2) (pa_cons (pv 3) pa_nil))) (pe_one (pe_hg gA h__law_are_steps (hr.mono (by decide)) rfl (pa_cons (pv 1) (pa_cons (pe_revL (pv 3)) pa_nil)))))))))))), ?_⟩
  have s3 : ([V.str "", .non, .non] : List V).length ≤ sizeLine := sl2 (by decide)
  refine ⟨sl2 (by show (3 : Nat) ≤ 5000; decide), fun p1 n1 => ⟨sl2 (by show (4 : Nat) ≤ 5000; decide), fun p2 n2 => ⟨sl2 (by show (2 : Nat) ≤ 5000; decide), fun p3 n3 => ⟨sl2 (by show (2 : Nat) ≤ 5000; decide), fun p4 n4 => ⟨sl2 (by show (4 : Nat) ≤ 5000; decide), fun p5 n5 => ?_⟩⟩⟩⟩⟩
  have e12 := same_upd (o := .tup [.str "put", .str "b", .str "aaaab", .str "right"]) n2
  have e23 := same_upd (o := .tup [.str "lower", .str "left"]) n3
  have e34 := same_upd (o := .tup [.str "half", .str "right"]) n4
  have e45 := same_upd (o := .tup [.ref p1, .ref p2, .ref p3, .ref p4]) n5
  have e05 := (((same_upd (o := .tup [.str "drop", .int 7, .str "right"]) n1).trans e12).trans (e23.trans e34)).trans e45
  have k1 := dp_ofRule (sqT_as (K := K) (sqT_ext (e12.trans (e23.trans (e34.trans e45))) (.of upd_same)) d7_eq)
  have k2 := dp_ofRule (sqT_as (K := K) (sqT_ext (e23.trans (e34.trans e45)) (.of upd_same)) put_eq)
  have k3 := dp_ofRule (sqT_as (K := K) (sqT_ext (e34.trans e45) (.of upd_same)) lw_eq)
  have k4 := dp_ofRule (sqT_as (K := K) (sqT_ext e45 (.of upd_same)) hf_eq)
  have h5 : SqT K _ p5 [.ref p1, .ref p2, .ref p3, .ref p4] := .of (upd_same (H := (upd (upd (upd (upd H p1 (.tup [.str "drop", .int 7, .str "right"])) p2 (.tup [.str "put", .str "b", .str "aaaab", .str "right"])) p3 (.tup [.str "lower", .str "left"])) p4 (.tup [.str "half", .str "right"]))))
  generalize (upd (upd (upd (upd (upd H p1 (.tup [.str "drop", .int 7, .str "right"])) p2 (.tup [.str "put", .str "b", .str "aaaab", .str "right"])) p3 (.tup [.str "lower", .str "left"])) p4 (.tup [.str "half", .str "right"])) p5 (.tup [.ref p1, .ref p2, .ref p3, .ref p4])) = H5 at e05 k1 k2 k3 k4 h5
  refine ⟨_, rfl, sl2 (by show (3 : Nat) ≤ 5000; decide), fun p6 n6 => ⟨sl2 (by show (3 : Nat) ≤ 5000; decide), fun p7 n7 => ⟨sl2 (by show (2 : Nat) ≤ 5000; decide), fun p8 n8 => ?_⟩⟩⟩
  have e67 := same_upd (o := .tup [.str "drop", .int 1, .str "left"]) n7
  have e78 := same_upd (o := .tup [.ref p6, .ref p7]) n8
  have e58 := ((same_upd (o := .tup [.str "drop", .int 30, .str "left"]) n6).trans e67).trans e78
  have k6 := dp_ofRule (sqT_as (K := K) (sqT_ext (e67.trans e78) (.of upd_same)) d30_eq)
  have k7 := dp_ofRule (sqT_as (K := K) (sqT_ext e78 (.of upd_same)) d1_eq)
  have h8 : SqT K _ p8 [.ref p6, .ref p7] := .of (upd_same (H := (upd (upd H5 p6 (.tup [.str "drop", .int 30, .str "left"])) p7 (.tup [.str "drop", .int 1, .str "left"]))))
  generalize (upd (upd (upd H5 p6 (.tup [.str "drop", .int 30, .str "left"])) p7 (.tup [.str "drop", .int 1, .str "left"])) p8 (.tup [.ref p6, .ref p7])) = H8 at e58 k6 k7 h8
  refine ⟨p5, p8, _, _, rfl, rfl, sqT_ext e58 h5, h8, (by show (6 : Nat) ≤ 5000; decide), fun p9 H9 e9 h9 => ?_⟩
  refine ⟨_, rfl, p5, _, _, _, _, rfl, sqT_ext (e58.trans e9) h5, fun p10 n10 => ?_⟩
  have e10 := same_upd (o := .tup [.ref p4, .ref p3, .ref p2, .ref p1]) n10
  refine ⟨p9, p10, _, _, rfl, rfl, sqT_ext e10 h9, .of upd_same, (by show (10 : Nat) ≤ 5000; decide), fun p11 H11 e11 h11 => ?_⟩
  have e811 := e9.trans (e10.trans e11)
  have e511 := e58.trans e811
  have e011 := e05.trans e511
  have hN : RsAt K H11 p11 R10 := ⟨_, h11, .cons (dp_ext e511 _ _ k1) (.cons (dp_ext e511 _ _ k2) (.cons (dp_ext e511 _ _ k3) (.cons (dp_ext e511 _ _ k4) (.cons (dp_ext e811 _ _ k6) (.cons (dp_ext e811 _ _ k7) (.cons (dp_ext e511 _ _ k4) (.cons (dp_ext e511 _ _ k3) (.cons (dp_ext e511 _ _ k2) (.cons (dp_ext e511 _ _ k1) .nil)))))))))⟩
  clear k1 k2 k3 k4 k6 k7 h5 h8 h9 h11
  refine ⟨sl2 (by show (0 : Nat) ≤ 5000; decide), fun q1 m1 => ⟨two_ok, fun q2 m2 => ⟨sl2 (by show (1 : Nat) ≤ 5000; decide), fun q3 m3 => ⟨two_ok, fun q4 m4 => ⟨two_ok, fun q5 o5 m5 ho5 ho5' => ⟨_, rfl, two_ok, fun q6 m6 => ?_⟩⟩⟩⟩⟩⟩
  have f2 := same_upd (o := .tup [.str "a", .ref q1]) m2
  have f3 := same_upd (o := .tup [.str "a"]) m3
  have f4 := same_upd (o := .tup [.str "b", .ref q3]) m4
  have f5 := same_upd (o := .frz o5 (.tup [.ref q2, .ref q4])) m5
  have f6 := same_upd (o := .tup [.ref q5, .ref p11]) m6
  have f16 := (((((same_upd (o := .tup []) m1).trans f2).trans f3).trans f4).trans f5).trans f6
  have g2 : Dp K _ (.ref q2) (dE (97, [])) := dp_ofEntry (e := (97, [])) (sqT_as (K := K) (sqT_ext (f3.trans (f4.trans (f5.trans f6))) (.of upd_same)) (by rw [a_eq])) (sqT_ext (f2.trans (f3.trans (f4.trans (f5.trans f6)))) (.of upd_same))
  have g4 : Dp K _ (.ref q4) (dE (98, [97])) := dp_ofEntry (e := (98, [97])) (sqT_as (K := K) (sqT_ext (f5.trans f6) (.of upd_same)) (by rw [b_eq])) (sqT_as (K := K) (sqT_ext (f4.trans (f5.trans f6)) (.of upd_same)) (by rw [a_eq]; rfl))
  have g5 : LtAt K _ q5 L1 := ⟨[.ref q2, .ref q4], plT_ext f6 ⟨o5, upd_same, ho5, ho5'⟩, .cons g2 (.cons g4 .nil)⟩
  have g6 : Bk K _ q6 L1 R10 := ⟨q5, p11, .of upd_same, g5, hN.ext f16⟩
  clear g2 g4 g5
  generalize (upd (upd (upd (upd (upd (upd H11 q1 (.tup [])) q2 (.tup [.str "a", .ref q1])) q3 (.tup [.str "a"])) q4 (.tup [.str "b", .ref q3])) q5 (.frz o5 (.tup [.ref q2, .ref q4]))) q6 (.tup [.ref q5, .ref p11])) = H6 at f16 g6
  have hN6 := hN.ext f16
  have e06 := e011.trans f16
  refine ⟨sl2 (by show (0 : Nat) ≤ 5000; decide), fun r1 m1 => ⟨two_ok, fun r2 m2 => ⟨sl2 (by show (0 : Nat) ≤ 5000; decide), fun r3 m3 => ⟨two_ok, fun r4 m4 => ⟨two_ok, fun r5 o5 m5 ho5 ho5' => ⟨_, rfl, two_ok, fun r6 m6 => ?_⟩⟩⟩⟩⟩⟩
  have f2 := same_upd (o := .tup [.str "a", .ref r1]) m2
  have f3 := same_upd (o := .tup []) m3
  have f4 := same_upd (o := .tup [.str "b", .ref r3]) m4
  have f5 := same_upd (o := .frz o5 (.tup [.ref r2, .ref r4])) m5
  have f6 := same_upd (o := .tup [.ref r5, .ref p11]) m6
  have f17 := (((((same_upd (o := .tup []) m1).trans f2).trans f3).trans f4).trans f5).trans f6
  have g2 : Dp K _ (.ref r2) (dE (97, [])) := dp_ofEntry (e := (97, [])) (sqT_as (K := K) (sqT_ext (f3.trans (f4.trans (f5.trans f6))) (.of upd_same)) (by rw [a_eq])) (sqT_ext (f2.trans (f3.trans (f4.trans (f5.trans f6)))) (.of upd_same))
  have g4 : Dp K _ (.ref r4) (dE (98, [])) := dp_ofEntry (e := (98, [])) (sqT_as (K := K) (sqT_ext (f5.trans f6) (.of upd_same)) (by rw [b_eq])) (sqT_ext (f4.trans (f5.trans f6)) (.of upd_same))
  have g5 : LtAt K _ r5 L2' := ⟨[.ref r2, .ref r4], plT_ext f6 ⟨o5, upd_same, ho5, ho5'⟩, .cons g2 (.cons g4 .nil)⟩
  have g7 : Bk K _ r6 L2' R10 := ⟨r5, p11, .of upd_same, g5, hN6.ext f17⟩
  have g67 := g6.ext f17
  clear g2 g4 g5
  generalize (upd (upd (upd (upd (upd (upd H6 r1 (.tup [])) r2 (.tup [.str "a", .ref r1])) r3 (.tup [])) r4 (.tup [.str "b", .ref r3])) r5 (.frz o5 (.tup [.ref r2, .ref r4]))) r6 (.tup [.ref r5, .ref p11])) = H7 at f17 g7 g67
  refine ⟨_, _, rfl, sl2 (by show (4 : Nat) ≤ 5000; decide), fun pw nw => ?_⟩
  have fw := same_upd (o := .lst [.str "abbaabbab", .str "bbbbbbbbbbbb", .str "ab", .str ""]) nw
  have hw : SqL K (upd H7 pw (.lst [.str "abbaabbab", .str "bbbbbbbbbbbb", .str "ab", .str ""])) pw (W4.map wv) := sqL_as (.of upd_same) w4_eq
  have hwr : SqL K (upd H7 pw (.lst [.str "abbaabbab", .str "bbbbbbbbbbbb", .str "ab", .str ""])) pw [.str "abbaabbab", .str "bbbbbbbbbbbb", .str "ab", .str ""] := .of upd_same
  have e0w := (e06.trans f17).trans fw
  refine ⟨_, rfl, _, rfl, q6, pw, L1, R10, W4, rfl, g67.ext fw, b1_ok, hw, w4_ok rfl, fun H12 e12 => ⟨true, rfl, ?_⟩⟩
  refine ⟨_, rfl, _, rfl, r6, pw, L2', R10, W4, rfl, g7.ext (fw.trans e12), b2_ok, e12.seq hw, w4_ok rfl, fun H13 e13 => ⟨true, rfl, ?_⟩⟩
  refine ⟨_, rfl, _, rfl, pw, _, rfl, (e12.trans e13).seq hwr, fun pz nz => ?_⟩
  have ez := same_upd (o := .lst ([V.str "abbaabbab", V.str "bbbbbbbbbbbb", V.str "ab", V.str ""].reverse)) nz
  have hz : SqL K (upd H13 pz (.lst ([V.str "abbaabbab", V.str "bbbbbbbbbbbb", V.str "ab", V.str ""].reverse))) pz (W4.reverse.map wv) := sqL_as (.of upd_same) (by rw [w4_eq, List.map_reverse])
  exact ⟨q6, pz, L1, R10, W4.reverse, rfl, g67.ext ((fw.trans (e12.trans e13)).trans ez), b1_ok, hz, fun x hx => w4_ok rfl x (List.mem_reverse.mp hx), fun H14 e14 => q _ ((e0w.trans (e12.trans e13)).trans (ez.trans e14))⟩
end
end Fk

set_option Elab.async false
set_option linter.all false
set_option maxRecDepth 100000
set_option maxHeartbeats 4000000
/-! Fk W7: the law. -/
namespace Fk
open PySem PySem.Spec PyProof.Rows L2
theorem fnG_of {P : Program} {w : World} {K : PySem.W.Frag} {mg : Str → Option Value} {base : Heap} {x : Str} {st : Stmt} {N ps : List Str} {k : Nat} {sp : Sp} {f : Addr} {fd : FuncData} (F : FunD K x x (defArgs st) (defBody st) (defScope st) [] [] f fd) (S : FnScope N ps (defScope st)) (len : ∀ vs H Q E, sp vs H Q E → vs.length = ps.length)
    (body : ∀ (cdv : Value) (A : Around) (outer : List Env) (s : Shared) (H : Hp) (vs : List V) (Q : VK) (E : XK), (A.deeper (envOfC x (defScope st) s.heap.objs.size f cdv)).guards = some [] → Room k (A.deeper (envOfC x (defScope st) s.heap.objs.size f cdv)) → sp vs H Q E →
      ∃ t, PSs (cxOf CX0 P w K mg base N x (defScope st) f cdv A outer s H E).nox (defBody st) t ∧ t { nx := fun _ H' => Q .non H', rt := Q } (start N vs) H) : FnG P w K mg base (k + 1) f fd ps sp :=
  fnG F S len fun cdv A outer s H vs Q E gA hr h => by
    obtain ⟨t, h1, h2⟩ := body cdv A outer s H vs Q E gA hr h
    exact ⟨t, h1.nox, h2⟩
theorem nob_mem {L : Lts} {x : Wd} (hL : LOk L) (hx : WOk L x) {y : Wd} (hy : y ∈ nob L x) : (∀ c ∈ y, c ∈ names L) ∧ y.length ≤ 60 := by
  have hx2 := hx.2
  have tk : ∀ k, ∀ c ∈ x.take k, c ∈ names L := fun k c hc => hx.1 c (List.mem_of_mem_take hc)
  have dp : ∀ k, ∀ c ∈ x.drop k, c ∈ names L := fun k c hc => hx.1 c (List.mem_of_mem_drop hc)
  obtain ⟨k, hk, hy⟩ := List.mem_flatMap.mp hy
  have hkl := List.mem_range.mp hk
  have hxk : x.getD k 0 ∈ names L := hx.1 _ (by rw [List.getD_eq_getElem?_getD, List.getElem?_eq_getElem hkl]; exact List.getElem_mem hkl)
  unfold nobK at hy
  split at hy
  · rw [List.mem_singleton] at hy
    subst hy
    refine ⟨fun c hc => ?_, by rw [List.length_append, List.length_take, List.length_drop]; omega⟩
    rcases List.mem_append.mp hc with z | z
    · exact tk _ c z
    · exact dp _ c z
  · obtain ⟨d, hd, rfl⟩ := List.mem_map.mp hy
    have hdn : d ∈ names L := hL.lsNames hxk (List.mem_filter.mp hd).1
    refine ⟨fun c hc => ?_, by rw [List.length_append, List.length_append, List.length_take, List.length_drop]; simp; omega⟩
    rcases List.mem_append.mp hc with z | z
    · exact tk _ c z
    · rcases List.mem_append.mp z with z | z
      · rw [List.mem_singleton] at z
        rw [z]
        exact hdn
      · exact dp _ c z
theorem dpA_str {K : PySem.W.Frag} {H : Hp} : ∀ (ys : List Str), DpAll K H (ys.map V.str) (ys.map PyData.str)
  | [] => .nil
  | y :: ys => .cons (.str y) (dpA_str ys)
theorem nc_told {L : Lts} {x : Wd} {ys : List Str} {b : Bool} (hL : LOk L) (hx : WOk L x) (hm : ∀ z, z ∈ ys ↔ z ∈ (nob L x).map tx) (hl : ys.length ≤ 1000) : Nc (.list [.tuple (ys.map .str), .bool b]) 2 200000 := by
  refine (Nc.lst (dep := 1) (bk := 61000) fun d hd => ?_).mono (Nat.le_refl _) (by simp)
  simp only [List.mem_cons, List.not_mem_nil, or_false] at hd
  rcases hd with rfl | rfl
  · refine (Nc.tup (dep := 0) (bk := 60) fun d hd => ?_).mono (Nat.le_refl _) (by rw [List.length_map]; omega)
    obtain ⟨z, hz, rfl⟩ := List.mem_map.mp hd
    obtain ⟨y, hy, rfl⟩ := List.mem_map.mp ((hm z).mp hz)
    obtain ⟨h1, h2⟩ := nob_mem hL hx hy
    exact (Nc.str fun c hc => hL.nameLow (h1 c hc)).mono (Nat.le_refl _) h2
  · exact (Nc.bool b).mono (by omega) (by omega)
theorem map_mir_ins (R : List Rl) (r : Rl) (i : Nat) : (insAt R r i).map mirR = insAt (R.map mirR) (mirR r) i := by
  unfold insAt
  rw [List.map_append, List.map_cons, List.map_take, List.map_drop]
def spLaw (K : PySem.W.Frag) : Sp := fun vs H Q _ => ∃ (a : Addr) (ns : List Int), vs = [.ref a] ∧ SqL K H a (ns.map V.int) ∧ ∀ H', Q (.bl true) H'
section
variable {P : Program} {w : World} {K : PySem.W.Frag} {mg : Str → Option Value} {base : Heap}
theorem h_law (B : Bt K mg) {f : Addr} {fd : FuncData} (F : FunD K "law" "law" (defArgs s_law) (defBody s_law) (defScope s_law) [] [] f fd) (h__law_tape : Has P w K mg base "_law_tape" [] 1 (spTape K)) (h__law_are_far : HasG P w K mg base "_law_are_far" 10 spFar)
    (h__law_page : Has P w K mg base "_law_page" [] 4 (spPage K)) (h__law_letters : Has P w K mg base "_law_letters" [] 1 (spLetters2 K)) (h__law_word : Has P w K mg base "_law_word" [] 3 (spWord K))
    (h__law_norm : Has P w K mg base "_law_norm" [] 3 (spNorm K)) (h_mirrored : Has P w K mg base "mirrored" [] 2 (spMir K)) (h__law_are_steps : HasG P w K mg base "_law_are_steps" 9 (spAreSteps K))
    (h__law_is_put : HasG P w K mg base "_law_is_put" 10 (spIsPut K)) (h__law_is_moved : HasG P w K mg base "_law_is_moved" 10 (spIsMoved K)) (h_with_rule : Has P w K mg base "with_rule" [.non] 5 (spWith K))
    (h__law_mirrored : Has P w K mg base "_law_mirrored" [] 1 (spMirR K)) (h_next_less : Has P w K mg base "next_less" [] 4 (spNextLess K)) (h_is_at_most : Has P w K mg base "is_at_most" [] 4 (spAtMost K)) : FnG P w K mg base 11 f fd ["_law_script"] (spLaw K) := by
  refine fnG_of F sc_law (fun vs H Q E h => by obtain ⟨_, _, rfl, _⟩ := h; rfl) fun cdv A outer s H vs Q E gA hr h => ?_
  obtain ⟨a, ns, rfl, hS, q⟩ := h
  refine ⟨_, (pss_cons (ps_set (i := 1) sc_law.nd rfl (Or.inr rfl) (pe_has h__law_tape (hr.mono (by decide)) rfl (pa_cons (pv 0) pa_nil)))
      (pss_cons (ps_if (pt_not (pt_val (pe_hg0 gA h__law_are_far (hr.mono (by decide)) rfl))) pss_never pss_nil)
      (pss_cons (ps_for PassesOwn.never rfl (pi_range1 rfl B.range_ (pa_cons pe_int pa_nil)) (pg_name (i := 2) sc_law.nd rfl (Or.inl rfl)) (pss_cons (ps_set (i := 3) sc_law.nd rfl (Or.inl rfl) (pe_has h__law_page (hr.mono (by decide)) rfl (pa_cons (pv 1) (pa_cons pe_int (pa_cons pe_int pa_nil)))))
      (pss_cons (ps_asg (pe_tup (pa_cons (pe_has h__law_letters (hr.mono (by decide)) rfl (pa_cons (pv 3) pa_nil)) (pa_cons (pe_callB (call_repr gA hr.units) rfl B.repr_ (by decide +kernel) (pa_cons (pv 3) pa_nil)) pa_nil))) (pg_tup rfl (pgs_cons (pg_name (i := 4) sc_law.nd rfl (Or.inr rfl)) (pgs_cons (pg_name (i := 5) sc_law.nd rfl (Or.inl rfl)) pgs_nil))))
      (pss_cons (ps_setLc (i := 6) (own := [("_law_i", 12)]) rfl sc_law.nd rfl rfl (sw_true rfl rfl rfl (by decide +kernel)) (pi_range1 rfl B.range_ (pa_cons pe_int pa_nil)) (blkOk_by (N := N_law) (sc := defScope s_law) (by decide +kernel)) (fun _ _ _ _ _ => (pg_name (i := 12) sc_law.nd rfl (Or.inl rfl) (.inr rfl))) (fun _ _ _ _ _ => pts_nil) (fun _ _ _ _ _ => (pe_has h__law_word (hr.mono (by decide)) rfl (pa_cons (pv 1) (pa_cons (pv 4) (pa_cons pe_int pa_nil))))))
      (pss_cons (ps_par (i := 7) (j := 8) rfl sc_law.nd rfl rfl (by decide) rfl rfl (pa_cons (pe_has h__law_norm (hr.mono (by decide)) rfl (pa_cons (pv 1) (pa_cons (pv 4) pa_nil))) (pa_cons (pe_has h_mirrored (hr.mono (by decide)) rfl (pa_cons (pv 3) pa_nil)) pa_nil)) rfl)
      (pss_cons (ps_if (PW.pt (pw_or (pt_not (pt_val (pe_hg gA h__law_are_steps (hr.mono (by decide)) rfl (pa_cons (pv 3) (pa_cons (pv 6) pa_nil))))) (pw_or1 (pt_not (pt_val (pe_hg gA h__law_is_put (hr.mono (by decide)) rfl (pa_cons (pv 3) (pa_cons (pv 7) (pa_cons (pv 6) pa_nil))))))))) pss_never pss_nil)
      (pss_cons (ps_if (PW.pt (pw_or (pt_not (pt_val (pe_hg gA h__law_is_moved (hr.mono (by decide)) rfl (pa_cons (pv 3) (pa_cons (pv 6) pa_nil))))) (pw_or1 (pt_not (pt_val (pe_hg gA h__law_are_steps (hr.mono (by decide)) rfl (pa_cons (pv 8) (pa_cons (pv 6) pa_nil)))))))) pss_never pss_nil)
      (pss_cons (ps_set (i := 9) sc_law.nd rfl (Or.inl rfl) (pe_has h_mirrored (hr.mono (by decide)) rfl (pa_cons (pe_has h_with_rule (hr.mono (by decide)) rfl (pa_cons (pv 3) (pa_cons (pv 7) pa_nil))) pa_nil)))
      (pss_cons (ps_if (PW.pt (pw_or (pt_cmpR (op_neD hr.units) (pe_has h_mirrored (hr.mono (by decide)) rfl (pa_cons (pv 8) pa_nil)) (pv 3) (nomark _)) (pw_or1 (pt_cmpR (op_neD hr.units) (pv 9) (pe_has h_with_rule (hr.mono (by decide)) rfl (pa_cons (pv 8) (pa_cons (pe_has h__law_mirrored (hr.mono (by decide)) rfl (pa_cons (pv 7) pa_nil)) pa_nil))) (nomark _))))) pss_never pss_nil)
      (pss_cons (ps_set (i := 10) sc_law.nd rfl (Or.inl rfl) (pe_lst (pa_cons (pe_has h_next_less (hr.mono (by decide)) rfl (pa_cons (pv 8) (pa_cons (pe_ix ix_list (pv 6) pe_int (fun _ _ => rfl)) pa_nil))) (pa_cons (pe_has h_is_at_most (hr.mono (by decide)) rfl (pa_cons (pv 8) (pa_cons (pe_ix ix_list (pv 6) pe_int (fun _ _ => rfl)) (pa_cons (pe_ix ix_list (pv 6) pe_int (fun _ _ => rfl)) pa_nil)))) pa_nil))))
      (pss_cons (ps_set (i := 11) sc_law.nd rfl (Or.inl rfl) (pe_lst (pa_cons (pe_has h_next_less (hr.mono (by decide)) rfl (pa_cons (pv 3) (pa_cons (pe_ix ix_list (pv 6) pe_int (fun _ _ => rfl)) pa_nil))) (pa_cons (pe_has h_is_at_most (hr.mono (by decide)) rfl (pa_cons (pv 3) (pa_cons (pe_ix ix_list (pv 6) pe_int (fun _ _ => rfl)) (pa_cons (pe_ix ix_list (pv 6) pe_int (fun _ _ => rfl)) pa_nil)))) pa_nil))))
      (pss_one (ps_if (PW.pt (pw_or (pt_cmpR (op_neD hr.units) (pv 10) (pv 11) (nomark _)) (pw_or1 (pt_cmpR op_ne (pe_callB (call_repr gA hr.units) rfl B.repr_ (by decide +kernel) (pa_cons (pv 3) pa_nil)) (pv 5) (nomark _))))) pss_never pss_nil)))))))))))))
      (pss_one (ps_ret pe_bl))))), ?_⟩
  refine ⟨_, rfl, a, ns, rfl, hS, fun H0 t sc xs e0 hT0 => ?_⟩
  refine ⟨rfl, fun H1 e1 => ⟨true, rfl, ?_⟩⟩
  have hT1 := hT0.ext e1
  refine ⟨(2 : Int), rfl, by decide, by decide, ?_⟩
  refine for_it (n := 2) walk_rng (fun i σ H2 => Tp K H2 t sc xs (200 * i) ∧ ∃ u2 u3 u4 u5 u6 u7 u8 u9 u10 u11 u12, σ = [some (.ref a), some (.ref t), u2, u3, u4, u5, u6, u7, u8, u9, u10, u11, u12]) ⟨hT1, _, _, _, _, _, _, _, _, _, _, _, rfl⟩ (fun _ _ _ _ _ => trivial) (fun i v σ H2 H3 hi p y => ?_) fun σ H2 p => ?_
  · obtain ⟨hT2, u2, u3, u4, u5, u6, u7, u8, u9, u10, u11, u12, rfl⟩ := p
    obtain ⟨rfl, rfl⟩ := y
    refine ⟨_, rfl, t, sc, xs, 200 * i, rfl, hT2, by omega, fun H4 pg L R b4 hT4 hb4 hL hok hR => ?_⟩
    have hB : BOk L R := ⟨hL, hok, by omega⟩
    have nc := nc_book hL hok (by omega)
    have h4 := hL.len
    refine ⟨_, rfl, pg, L, R, rfl, hb4, h4, fun H5 pk e5 hk5 => ?_⟩
    have hb5 := hb4.ext e5
    refine ⟨_, rfl, pg, dB L R, rfl, hb5.dp, nc.sh, nc.noDict, Nat.le_trans nc.dp (by decide), nc.fits (by decide), two_ok, fun pt npt => ?_⟩
    have e56 := same_upd (o := .tup [.ref pk, .str (dB L R).shown]) npt
    refine ⟨pt, _, rfl, .of upd_same, rfl, _, _, rfl, _, _, rfl, rfl, ?_⟩
    have hb6 := hb5.ext e56
    have hk6 := e56 _ _ hk5
    have hT6 := hT4.ext (e5.trans e56)
    generalize upd H5 pt (.tup [.ref pk, .str (dB L R).shown]) = H6 at e56 hb6 hk6 hT6
    obtain ⟨r6, hr6⟩ := hT6.at
    have sqk : ∀ {H' : Hp}, SameBut t H6 H' → SqL K H' pk ((names L).map lv) := fun e => by
      have h0 : SqL K H6 pk ((names L).map lv) := .of hk6
      rw [iv_str] at h0 ⊢
      exact sqL_but e hr6 h0
    have hnl : (names L).length = L.length := by unfold names; rw [List.length_map]
    have low : ∀ c ∈ names L, lower26 c := fun c hc => hL.nameLow hc
    refine ⟨(2 : Int), rfl, by decide, by decide, fun Dk nD => ?_⟩
    have hDt : Dk ≠ t := (ne_of_none hr6 nD).symm
    refine lc_it (n := 2) walk_rng (fun j H7 => SameBut t H6 H7 ∧ Tp K H7 t sc xs (200 * i + 100 + 10 * j) ∧ ∃ ws : List Wd, H7 Dk = some (.lst (ws.map wv)) ∧ (∀ x ∈ ws, WOk L x ∧ x.length ≤ 5) ∧ ws.length = j) ⟨.of (same_upd nD), hT6.ext (same_upd nD), [], upd_same, (fun _ h => nomatch h), rfl⟩ (fun _ _ _ _ => trivial) (fun j v H7 H8 hj p y => ?_) fun H7 p => ?_
    · obtain ⟨b7, hT7, ws, hD7, hw7, hl7⟩ := p
      obtain ⟨rfl, rfl⟩ := y
      refine ⟨rfl, _, rfl, _, rfl, t, sc, pk, xs, names L, 200 * i + 100 + 10 * j, rfl, sqk b7, low, by omega, hT7, by omega, fun H9 x hx hx5 b9 hT9 => ?_⟩
      have bY : SameBut t H6 (upd H9 Dk (.lst (ws.map wv ++ [wv x]))) := fun b' o' hb' ho' => by
        rw [upd_ne (fun z => by rw [z, nD] at ho'; cases ho')]
        exact (b7.trans b9) _ _ hb' ho'
      refine ⟨_, b9 _ _ hDt hD7, by rw [List.length_map, sizeLine_eq]; omega, bY, (Tp.upd hT6 hT9 bY hDt.symm).mono (by omega), ws ++ [x], by rw [upd_same, List.map_append]; rfl, fun y hy => ?_, by rw [List.length_append, hl7]; rfl⟩
      rcases List.mem_append.mp hy with z | z
      · exact hw7 y z
      · rw [List.mem_singleton] at z
        rw [z]
        exact ⟨⟨hx, by omega⟩, hx5⟩
    · obtain ⟨b7, hT7, ws, hD7, hw7, hl7⟩ := p
      obtain ⟨w0, w1, rfl⟩ : ∃ w0 w1, ws = [w0, w1] := match ws, hl7 with
        | [w0, w1], _ => ⟨w0, w1, rfl⟩
      have hw0 := hw7 w0 List.mem_cons_self
      have hw1 := hw7 w1 (List.mem_cons_of_mem _ List.mem_cons_self)
      have hwa : ∀ x ∈ [w0, w1], WOk L x := fun x hx => (hw7 x hx).1
      have hb7 := hb6.but b7 hr6
      refine ⟨_, rfl, _, rfl, t, sc, pk, xs, names L, 200 * i + 100 + 10 * 2, rfl, sqk b7, low, by omega, hT7, by omega, fun H8 pn r hRN b8 hT8 hn8 => ?_⟩
      have hrok : ROk L r := hRN.ok fun c => Iff.rfl
      obtain ⟨r7, hr7⟩ := hT7.at
      have hb8 := hb7.but b8 hr7
      have hw8 : SqL K H8 Dk ([w0, w1].map wv) := .of (b8 _ _ hDt hD7)
      refine ⟨_, rfl, pg, L, R, rfl, hb8, by omega, fun H9 pm e9 hm9 => ⟨_, _, rfl, ?_⟩⟩
      have hT9 := hT8.ext e9
      have hBm : BOk L (R.map mirR) := ⟨hL, fun x hx => by
        obtain ⟨r0, hr0, rfl⟩ := List.mem_map.mp hx
        exact mirR_ok (hok r0 hr0), by rw [List.length_map]; omega⟩
      have hml : (R.map mirR).length ≤ 100 := by rw [List.length_map]; omega
      refine ⟨_, rfl, _, rfl, pg, Dk, L, R, [w0, w1], rfl, hb8.ext e9, hB, e9.seq hw8, hwa, fun H10 e10 => ⟨true, rfl, ?_⟩⟩
      have e910 := e9.trans e10
      refine ⟨_, rfl, _, rfl, _, rfl, pg, pn, Dk, L, R, r, [w0, w1], rfl, hb8.ext e910, hB, by omega, sqT_ext e910 hn8, hrok, e910.seq hw8, hwa, fun H11 e11 => ⟨true, rfl, ?_⟩⟩
      have e911 := e910.trans e11
      refine ⟨_, rfl, _, rfl, pg, Dk, L, R, [w0, w1], rfl, hb8.ext e911, hB, e911.seq hw8, hwa, fun H12 e12 => ⟨true, rfl, ?_⟩⟩
      have e912 := e911.trans e12
      refine ⟨_, rfl, _, rfl, pm, Dk, L, R.map mirR, [w0, w1], rfl, hm9.ext (e10.trans (e11.trans e12)), hBm, e912.seq hw8, hwa, fun H13 e13 => ⟨true, rfl, ?_⟩⟩
      have e913 := e912.trans e13
      have em13 := e10.trans (e11.trans (e12.trans e13))
      refine ⟨_, rfl, _, rfl, pg, pn, .non, L, R, r, R.length, rfl, hb8.ext e913, hL, by omega, sqT_ext e913 hn8, hrok, .inl ⟨rfl, rfl⟩, fun H14 p14 e14 hb14 => ?_⟩
      refine ⟨p14, L, insAt R r R.length, rfl, hb14, by rw [ins_len]; omega, fun H15 p15 e15 hb15 => ?_⟩
      have e915 := e913.trans (e14.trans e15)
      have em15 := em13.trans (e14.trans e15)
      refine ⟨_, rfl, pm, L, R.map mirR, rfl, hm9.ext em15, hml, fun H16 p16 e16 hb16 => ?_⟩
      rw [mir_mir] at hb16
      refine ⟨_, rfl, dB L R, dB L R, hb16.dp, (hb8.ext (e915.trans e16)).dp, nc.shaped (by decide), nc.shaped (by decide), _, rfl, iteNE nc.eqv ?_⟩
      refine ⟨_, rfl, _, rfl, _, rfl, pn, r, rfl, sqT_ext (e915.trans e16) hn8, fun H17 p17 e17 h17 => ?_⟩
      have em17 := em15.trans (e16.trans e17)
      refine ⟨pm, p17, .non, L, R.map mirR, mirR r, (R.map mirR).length, rfl, hm9.ext em17, hL, hml, h17, mirR_ok hrok, .inl ⟨rfl, rfl⟩, fun H18 p18 e18 hb18 => ?_⟩
      have hins : insAt (R.map mirR) (mirR r) (R.map mirR).length = (insAt R r R.length).map mirR := by
        rw [map_mir_ins, List.length_map]
      rw [hins] at hb18
      have ncI := nc_book (R := (insAt R r R.length).map mirR) hL (fun x hx => by
        obtain ⟨r0, hr0, rfl⟩ := List.mem_map.mp hx
        exact mirR_ok ((hB.ins (by omega) hrok).r r0 hr0)) (by rw [List.length_map, ins_len]; omega)
      refine ⟨_, _, (hb15.ext (e16.trans (e17.trans e18))).dp, hb18.dp, ncI.shaped (by decide), ncI.shaped (by decide), _, rfl, iteNE ncI.eqv ?_⟩
      have e918 := e915.trans (e16.trans (e17.trans e18))
      have em18 := em17.trans e18
      have hw18 := e918.seq hw8
      refine ⟨_, rfl, _, rfl, Dk, _, 0, _, rfl, rfl, hw18, rfl, pm, L, R.map mirR, w0, rfl, hm9.ext em18, hL, hw0.1, by omega, fun H19 p19 ys e19 hs19 nd19 hm19 hl19 h19 => ?_⟩
      have hw19 := e19.seq hw18
      refine ⟨_, rfl, _, rfl, Dk, _, 0, _, rfl, rfl, hw19, rfl, _, rfl, Dk, _, 1, _, rfl, rfl, hw19, rfl, pm, L, R.map mirR, w0, w1, rfl, hm9.ext (em18.trans e19), hL, hw0.1, hw1.1, fun H20 e20 => ⟨two_ok, fun p20 np20 => ?_⟩⟩
      have e2020 := same_upd (o := .lst [.ref p19, .bl (decide (lam L w0 0 w1 = w0.length))]) np20
      have dT : Dp K (upd H20 p20 (.lst [.ref p19, .bl (decide (lam L w0 0 w1 = w0.length))])) (.ref p20) (.list [.tuple (ys.map .str), .bool (decide (lam L w0 0 w1 = w0.length))]) :=
        .lst (.of upd_same) (.cons (.tup (sqT_ext (e20.trans e2020) h19) (dpA_str ys)) (.cons (.bl _) .nil))
      have e1920 := e19.trans (e20.trans e2020)
      generalize upd H20 p20 (.lst [.ref p19, .bl (decide (lam L w0 0 w1 = w0.length))]) = H21 at e2020 dT e1920
      have e921 := e918.trans e1920
      have hw21 := e921.seq hw8
      refine ⟨_, rfl, _, rfl, Dk, _, 0, _, rfl, rfl, hw21, rfl, pg, L, R, w0, rfl, hb8.ext e921, hL, hw0.1, by omega, fun H22 p22 ys2 e22 hs22 nd22 hm22 hl22 h22 => ?_⟩
      have hw22 := e22.seq hw21
      refine ⟨_, rfl, _, rfl, Dk, _, 0, _, rfl, rfl, hw22, rfl, _, rfl, Dk, _, 1, _, rfl, rfl, hw22, rfl, pg, L, R, w0, w1, rfl, hb8.ext (e921.trans e22), hL, hw0.1, hw1.1, fun H23 e23 => ⟨two_ok, fun p23 np23 => ?_⟩⟩
      have e2323 := same_upd (o := .lst [.ref p22, .bl (decide (lam L w0 0 w1 = w0.length))]) np23
      have dU : Dp K (upd H23 p23 (.lst [.ref p22, .bl (decide (lam L w0 0 w1 = w0.length))])) (.ref p23) (.list [.tuple (ys2.map .str), .bool (decide (lam L w0 0 w1 = w0.length))]) :=
        .lst (.of upd_same) (.cons (.tup (sqT_ext (e23.trans e2323) h22) (dpA_str ys2)) (.cons (.bl _) .nil))
      have e2223 := e22.trans (e23.trans e2323)
      generalize upd H23 p23 (.lst [.ref p22, .bl (decide (lam L w0 0 w1 = w0.length))]) = H24 at e2323 dU e2223
      have hys : ys2 = ys := sortedS_uniq hs22 hs19 ((List.perm_ext_iff_of_nodup nd22 nd19).mpr fun z => (hm22 z).trans (hm19 z).symm)
      rw [hys] at dU
      have ncT := nc_told (b := decide (lam L w0 0 w1 = w0.length)) hL hw0.1 hm19 hl19
      have e924 := e921.trans e2223
      refine ⟨_, rfl, _, rfl, _, _, dp_ext e2223 _ _ dT, dU, ncT.shaped (by decide), ncT.shaped (by decide), _, rfl, iteNE ncT.eqv ?_⟩
      refine ⟨_, rfl, pg, dB L R, rfl, (hb8.ext e924).dp, nc.sh, nc.noDict, Nat.le_trans nc.dp (by decide), nc.fits (by decide), _, rfl, rfl, _, rfl, iteNS rfl ?_⟩
      exact ⟨(hT8.ext e924).mono (by omega), _, _, _, _, _, _, _, _, _, _, _, rfl⟩
  · exact q _
end
end Fk

set_option Elab.async false
set_option linter.all false
set_option maxRecDepth 100000
set_option maxHeartbeats 4000000
/-! Fk Z: the end for a law whose def asks that no repr is under way. -/
namespace Fk
open PySem PySem.Spec PyProof.Rows L2

/-- nothing is tracked but, at most, the script at a, and that only where it is no object of the module -/
def ScriptOnly (K : PySem.W.Frag) (a : Addr) (H : Hp) : Prop := ∀ b u, H b = some u → b = a ∧ K.lookup a = none ∧ ∃ ob xs, u = .frz ob (.lst xs)
theorem ScriptOnly.free {K : PySem.W.Frag} {a : Addr} {H : Hp} (h : ScriptOnly K a H) {b : Addr} (n : b ≠ a) : H b = none := by
  cases q : H b with
  | none => rfl
  | some u => exact absurd (h b u q).1 n
section
variable {P : Program} {w : World} {K : PySem.W.Frag} {mg mb : Str → Option Value} {k : Nat} {fa a : Addr} {fd : FuncData} {x : Str} {sp : Sp} {s : Shared} {vs : List Value} {ns : List Int} {H : Hp}
/-- the law's run from such a heap -/
theorem run_from (KX : K.In s.heap) (hns : s.heap.Ns mainGlobals mg) (hb : s.heap.Ns builtinsNs mb) (hbb : ∀ y : Str, y ≠ "__name__" → mb y = bootBuiltins y) (hlim : s.heap.NoLimit) (hg : s.gens = #[])
    (ha : s.heap.get? a = some { cls := .type "list", data := .seq vs.toArray }) (hr : Room k callerA) (F : ∀ base : Heap, K.In base → base.Ns mainGlobals mg → FnG P w K mg base k fa fd [x] sp)
    (hbind : ∀ (s : Shared) (u : Value), BindsTo s fd ⟨[u], []⟩ [(x, u)]) (hO : ScriptOnly K a H) (hok : HOk P w H s.heap) (hsp : sp [.ref a] H (fun v _ => v = .bl true) fun _ _ _ => False) :
    codeAny (model P w) callerA (.call (.ref fa) ⟨[.ref a], []⟩) (fun r s' => r = .ok (.ret (.bool true)) ∧ OldK s.heap s'.heap ∧ s'.os = s.os ∧ AllBare s'.gens) s := by
  have free : ∀ {b : Addr} {m : Str → Option Value}, s.heap.Ns b m → H b = none := fun {b m} ⟨o, es, ep, e, d, _⟩ => hO.free fun z => by
    rw [z, ha] at e
    cases e
    have d' : Data.seq vs.toArray 0 = Data.dict es ep := d
    cases d'
  have low : ∀ {b : Addr} {m : Str → Option Value}, s.heap.Ns b m → (hidT s.heap H).Ns b m := fun {b m} n => by
    have f := free n
    obtain ⟨o, es, ep, e, r⟩ := n
    exact ⟨o, es, ep, hidT_get e f, r⟩
  have KB : K.In (hidT s.heap H) := fun b o e => hidT_get (KX b o e) (by
    cases q : H b with
    | none => rfl
    | some u =>
      obtain ⟨h1, h2, _⟩ := hO b u q
      rw [h1, h2] at e
      cases e)
  obtain ⟨mc, l1, l2⟩ := hlim
  have md : Mod K mg (hidT s.heap H) := ⟨KB, low hns, ⟨mb, low hb, hbb⟩, ⟨mc, low l1, l2⟩⟩
  have e0 : Env0 P w K mg (hidT s.heap H) callerA [] s H := ⟨rfl, md, fun b o e => of_hidT e, Nat.le_of_eq (hidT_size _ _), trivial, fun b hb => (nomatch (show b ∈ ([] : List Addr) from hb)), hok, .of_eq hg⟩
  refine codeAny_mono ((F _ KB (low hns)).go callerA rfl hr [] s H ⟨[.ref a], []⟩ [.ref a] [.ref a] _ _ e0 (hbind s (.ref a)) (.cons rfl .nil) hsp) fun r s' h => ?_
  match r, h with
  | .error _, h => exact False.elim h
  | .ok .next, h => exact False.elim h
  | .ok .brk, h => exact False.elim h
  | .ok .cont, h => exact False.elim h
  | .ok (.ret u), h =>
    obtain ⟨v, H', os, bare, un, hok', r', q⟩ := h
    have q' : v = .bl true := q
    subst q'
    obtain rfl : u = Value.bool true := r'
    refine ⟨rfl, OldK.of_keep fun b o e => ?_, os, bare⟩
    cases q : H b with
    | none => exact un.keep b o e q (fun z => (nomatch (show b ∈ ([] : List Addr) from z))) (by simp)
    | some u =>
      obtain ⟨_, _, ob, xs, rfl⟩ := hO b u q
      have g1 := (hok b _ q).1
      rw [e] at g1
      cases g1
      exact (hok' b _ (un.frzs b _ _ q)).1
theorem run_any (KX : K.In s.heap) (hns : s.heap.Ns mainGlobals mg) (hb : s.heap.Ns builtinsNs mb) (hbb : ∀ y : Str, y ≠ "__name__" → mb y = bootBuiltins y) (hlim : s.heap.NoLimit) (hg : s.gens = #[])
    (ha : s.heap.get? a = some { cls := .type "list", data := .seq vs.toArray }) (hi : IntsAre vs ns) (hl : ns.length ≤ sizeLine) (hr : Room k callerA) (F : ∀ base : Heap, K.In base → base.Ns mainGlobals mg → FnG P w K mg base k fa fd [x] sp)
    (hbind : ∀ (s : Shared) (u : Value), BindsTo s fd ⟨[u], []⟩ [(x, u)]) (hsp : ∀ H : Hp, SqL K H a (ns.map V.int) → sp [.ref a] H (fun v _ => v = .bl true) fun _ _ _ => False) :
    codeAny (model P w) callerA (.call (.ref fa) ⟨[.ref a], []⟩) (fun r s' => r = .ok (.ret (.bool true)) ∧ OldK s.heap s'.heap ∧ s'.os = s.os ∧ AllBare s'.gens) s := by
  have rv := vals_ints hi
  have hlen := hi.length
  by_cases hk : ∃ o, K.lookup a = some o
  · obtain ⟨o, hk⟩ := hk
    have e := KX a o hk
    rw [ha] at e
    cases e
    refine run_from (H := fun _ => none) KX hns hb hbb hlim hg ha hr F hbind (fun b u z => (nomatch (show (none : Option HO) = some u from z))) (fun b u z => (nomatch (show (none : Option HO) = some u from z))) (hsp _ (.inr ⟨_, vs.toArray, 0, hk, rfl, rfl, rfl, ?_, by simpa using rv⟩))
    rw [List.size_toArray, hlen]
    exact hl
  · have hn : K.lookup a = none := by
      cases q : K.lookup a with
      | none => rfl
      | some o => exact absurd ⟨o, q⟩ hk
    have at_ : upd (fun _ => none) a (.frz { cls := .type "list", data := .seq vs.toArray } (.lst (ns.map V.int))) a = some (.frz { cls := .type "list", data := .seq vs.toArray } (.lst (ns.map V.int))) := upd_same
    have only : ∀ b u, upd (fun _ => none) a (.frz { cls := .type "list", data := .seq vs.toArray } (.lst (ns.map V.int))) b = some u → b = a ∧ u = .frz { cls := .type "list", data := .seq vs.toArray } (.lst (ns.map V.int)) := fun b u z => by
      by_cases h : b = a
      · rw [h, at_] at z
        exact ⟨h, (Option.some.inj z).symm⟩
      · rw [upd_ne h] at z
        cases z
    refine run_from (H := upd (fun _ => none) a (.frz { cls := .type "list", data := .seq vs.toArray } (.lst (ns.map V.int)))) KX hns hb hbb hlim hg ha hr F hbind (fun b u z => ?_) (fun b u z => ?_) (hsp _ (.inl (.inr ⟨_, at_⟩)))
    · obtain ⟨h1, h2⟩ := only b u z
      exact ⟨h1, hn, _, _, h2⟩
    · obtain ⟨h1, h2⟩ := only b u z
      rw [h1, h2]
      exact ⟨ha, by rw [List.length_map]; exact hl, vs, 0, rv, ha⟩
end
theorem walk_G {l : PySem.W.OpenLaw} {n k : Nat} {q : Program} {loose : List Str} {XP : (Str → Option Value) → Heap → Prop} {YP : World → Heap → Prop} {d : DefRec} {x : Str}
    (hn : l.most = some n) (hn2 : n ≤ sizeLine) (hdf : d.params.defaults = []) (hr : Room k callerA)
    (F : ∀ (w : World) (mg : Str → Option Value) (fa : Addr) (h : Heap), YP w h → h.Ns mainGlobals mg → mg d.name = some (.ref fa) →
      ∃ (K : PySem.W.Frag) (fd : FuncData) (sp : Sp), K.In h ∧ (∀ (s : Shared) (u : Value), BindsTo s fd ⟨[u], []⟩ [(x, u)]) ∧
        (∀ (H : Hp) (a : Addr) (ns : List Int), SqL K H a (ns.map V.int) → sp [.ref a] H (fun v _ => v = .bl true) fun _ _ _ => False) ∧
        ∀ base : Heap, K.In base → base.Ns mainGlobals mg → FnG l.prog w K mg base k fa fd [x] sp) :
    PySem.W.WalkO q loose XP YP l.row.toRowW d [] (fun f vs => PySem.call f vs) := by
  refine Att.attach_call hn hdf fun w s₀ s₁ mg mb fa o pm cd doc a vs ns G Y ho hd hcd hmg hobj hints hlen hg => ?_
  obtain ⟨K, fd, sp, KX, hb, hsp, hF⟩ := F w mg fa _ Y G.T.g hmg
  exact run_any KX G.T.g G.T.b G.T.builtins G.T.nolimit hg hobj hints (Nat.le_trans hlen hn2) hr hF hb fun H hS => hsp H a ns hS
end Fk

set_option Elab.async false
set_option linter.all false
set_option maxRecDepth 100000
set_option maxHeartbeats 0
/-! Fk End: the facts behind the head, put to the walks. -/
namespace Fk
open PySem PySem.Spec PyProof.Rows L2
section
variable {K : PySem.W.Frag} {h : Heap} {mg : Str → Option Value} (X : K.In h) (G : h.Ns mainGlobals mg) (c : He.SaysD fa fn K)
include X G c
theorem bt_ok (sb : sidesB K = true) : Bt K mg where
  isinstance_ := He.free_ok X G (c.fact 60 (f := .free "isinstance") rfl)
  len_ := He.free_ok X G (c.fact 61 (f := .free "len") rfl)
  all_ := He.free_ok X G (c.fact 62 (f := .free "all") rfl)
  zip_ := He.free_ok X G (c.fact 63 (f := .free "zip") rfl)
  enumerate_ := He.free_ok X G (c.fact 64 (f := .free "enumerate") rfl)
  range_ := He.free_ok X G (c.fact 65 (f := .free "range") rfl)
  max_ := He.free_ok X G (c.fact 66 (f := .free "max") rfl)
  sorted_ := He.free_ok X G (c.fact 67 (f := .free "sorted") rfl)
  repr_ := He.free_ok X G (c.fact 68 (f := .free "repr") rfl)
  int_ := He.free_ok X G (c.fact 69 (f := .free "int") rfl)
  str_ := He.free_ok X G (c.fact 70 (f := .free "str") rfl)
  bool_ := He.free_ok X G (c.fact 71 (f := .free "bool") rfl)
  tuple_ := He.free_ok X G (c.fact 72 (f := .free "tuple") rfl)
  list_ := He.free_ok X G (c.fact 73 (f := .free "list") rfl)
  dict_ := He.free_ok X G (c.fact 74 (f := .free "dict") rfl)
  set_ := He.free_ok X G (c.fact 75 (f := .free "set") rfl)
  low := He.str_ok X G (c.fact 59 (f := .str "LOWERCASE" "abcdefghijklmnopqrstuvwxyz") rfl)
  sides := ⟨_, He.glo_ok X G (c.fact 58 (f := .glo "SIDES") rfl), fun H => He.tupB_ok sb H⟩
theorem D_is_integer : Def K mg "is_integer" s_is_integer [] [] := by
  obtain ⟨fd, F⟩ := c.def_ 0 (d := d_is_integer) rfl
  exact ⟨_, fd, F, He.glo_ok X G (c.fact 0 (f := .glo "is_integer") rfl)⟩
theorem D_is_number : Def K mg "is_number" s_is_number [] [] := by
  obtain ⟨fd, F⟩ := c.def_ 1 (d := d_is_number) rfl
  exact ⟨_, fd, F, He.glo_ok X G (c.fact 1 (f := .glo "is_number") rfl)⟩
theorem D_is_letter : Def K mg "is_letter" s_is_letter [] [] := by
  obtain ⟨fd, F⟩ := c.def_ 2 (d := d_is_letter) rfl
  exact ⟨_, fd, F, He.glo_ok X G (c.fact 2 (f := .glo "is_letter") rfl)⟩
theorem D_is_thing : Def K mg "is_thing" s_is_thing [] [] := by
  obtain ⟨fd, F⟩ := c.def_ 3 (d := d_is_thing) rfl
  exact ⟨_, fd, F, He.glo_ok X G (c.fact 3 (f := .glo "is_thing") rfl)⟩
theorem D_is_rising_row : Def K mg "is_rising_row" s_is_rising_row [] [] := by
  obtain ⟨fd, F⟩ := c.def_ 4 (d := d_is_rising_row) rfl
  exact ⟨_, fd, F, He.glo_ok X G (c.fact 4 (f := .glo "is_rising_row") rfl)⟩
theorem D_is_letter_set : Def K mg "is_letter_set" s_is_letter_set [] [] := by
  obtain ⟨fd, F⟩ := c.def_ 5 (d := d_is_letter_set) rfl
  exact ⟨_, fd, F, He.glo_ok X G (c.fact 5 (f := .glo "is_letter_set") rfl)⟩
theorem D_is_pair : Def K mg "is_pair" s_is_pair [] [] := by
  obtain ⟨fd, F⟩ := c.def_ 6 (d := d_is_pair) rfl
  exact ⟨_, fd, F, He.glo_ok X G (c.fact 6 (f := .glo "is_pair") rfl)⟩
theorem D_is_entry : Def K mg "is_entry" s_is_entry [] [] := by
  obtain ⟨fd, F⟩ := c.def_ 7 (d := d_is_entry) rfl
  exact ⟨_, fd, F, He.glo_ok X G (c.fact 7 (f := .glo "is_entry") rfl)⟩
theorem D_is_side : Def K mg "is_side" s_is_side [] [] := by
  obtain ⟨fd, F⟩ := c.def_ 8 (d := d_is_side) rfl
  exact ⟨_, fd, F, He.glo_ok X G (c.fact 8 (f := .glo "is_side") rfl)⟩
theorem D_is_rule : Def K mg "is_rule" s_is_rule [] [] := by
  obtain ⟨fd, F⟩ := c.def_ 9 (d := d_is_rule) rfl
  exact ⟨_, fd, F, He.glo_ok X G (c.fact 9 (f := .glo "is_rule") rfl)⟩
theorem D_reached_letters : Def K mg "reached_letters" s_reached_letters [] [] := by
  obtain ⟨fd, F⟩ := c.def_ 10 (d := d_reached_letters) rfl
  exact ⟨_, fd, F, He.glo_ok X G (c.fact 10 (f := .glo "reached_letters") rfl)⟩
theorem D_letters_fault : Def K mg "letters_fault" s_letters_fault [] [] := by
  obtain ⟨fd, F⟩ := c.def_ 11 (d := d_letters_fault) rfl
  exact ⟨_, fd, F, He.glo_ok X G (c.fact 11 (f := .glo "letters_fault") rfl)⟩
theorem D_are_letters_known : Def K mg "are_letters_known" s_are_letters_known [] [] := by
  obtain ⟨fd, F⟩ := c.def_ 12 (d := d_are_letters_known) rfl
  exact ⟨_, fd, F, He.glo_ok X G (c.fact 12 (f := .glo "are_letters_known") rfl)⟩
theorem D_book_fault : Def K mg "book_fault" s_book_fault [] [] := by
  obtain ⟨fd, F⟩ := c.def_ 13 (d := d_book_fault) rfl
  exact ⟨_, fd, F, He.glo_ok X G (c.fact 13 (f := .glo "book_fault") rfl)⟩
theorem D_want : Def K mg "want" s_want [.int (-1)] [] := by
  obtain ⟨fd, F⟩ := c.def_ 14 (d := d_want) rfl
  exact ⟨_, fd, F, He.glo_ok X G (c.fact 14 (f := .glo "want") rfl)⟩
theorem D_known_letters : Def K mg "known_letters" s_known_letters [] [] := by
  obtain ⟨fd, F⟩ := c.def_ 15 (d := d_known_letters) rfl
  exact ⟨_, fd, F, He.glo_ok X G (c.fact 15 (f := .glo "known_letters") rfl)⟩
theorem D_is_thing_of : Def K mg "is_thing_of" s_is_thing_of [] [] := by
  obtain ⟨fd, F⟩ := c.def_ 16 (d := d_is_thing_of) rfl
  exact ⟨_, fd, F, He.glo_ok X G (c.fact 16 (f := .glo "is_thing_of") rfl)⟩
theorem D_is_rule_of : Def K mg "is_rule_of" s_is_rule_of [] [] := by
  obtain ⟨fd, F⟩ := c.def_ 17 (d := d_is_rule_of) rfl
  exact ⟨_, fd, F, He.glo_ok X G (c.fact 17 (f := .glo "is_rule_of") rfl)⟩
theorem D_want_thing : Def K mg "want_thing" s_want_thing [] [] := by
  obtain ⟨fd, F⟩ := c.def_ 18 (d := d_want_thing) rfl
  exact ⟨_, fd, F, He.glo_ok X G (c.fact 18 (f := .glo "want_thing") rfl)⟩
theorem D_put_in : Def K mg "put_in" s_put_in [] [] := by
  obtain ⟨fd, F⟩ := c.def_ 19 (d := d_put_in) rfl
  exact ⟨_, fd, F, He.glo_ok X G (c.fact 19 (f := .glo "put_in") rfl)⟩
theorem D_with_rule : Def K mg "with_rule" s_with_rule [] [("at", .non)] := by
  obtain ⟨fd, F⟩ := c.def_ 20 (d := d_with_rule) rfl
  exact ⟨_, fd, F, He.glo_ok X G (c.fact 20 (f := .glo "with_rule") rfl)⟩
theorem D_without_rule : Def K mg "without_rule" s_without_rule [] [] := by
  obtain ⟨fd, F⟩ := c.def_ 21 (d := d_without_rule) rfl
  exact ⟨_, fd, F, He.glo_ok X G (c.fact 21 (f := .glo "without_rule") rfl)⟩
theorem D_moved_rule : Def K mg "moved_rule" s_moved_rule [] [] := by
  obtain ⟨fd, F⟩ := c.def_ 22 (d := d_moved_rule) rfl
  exact ⟨_, fd, F, He.glo_ok X G (c.fact 22 (f := .glo "moved_rule") rfl)⟩
theorem D_mirrored_rule : Def K mg "mirrored_rule" s_mirrored_rule [] [] := by
  obtain ⟨fd, F⟩ := c.def_ 23 (d := d_mirrored_rule) rfl
  exact ⟨_, fd, F, He.glo_ok X G (c.fact 23 (f := .glo "mirrored_rule") rfl)⟩
theorem D_mirrored : Def K mg "mirrored" s_mirrored [] [] := by
  obtain ⟨fd, F⟩ := c.def_ 24 (d := d_mirrored) rfl
  exact ⟨_, fd, F, He.glo_ok X G (c.fact 24 (f := .glo "mirrored") rfl)⟩
theorem D_lets_book : Def K mg "lets_book" s_lets_book [] [] := by
  obtain ⟨fd, F⟩ := c.def_ 25 (d := d_lets_book) rfl
  exact ⟨_, fd, F, He.glo_ok X G (c.fact 25 (f := .glo "lets_book") rfl)⟩
theorem D_places_of : Def K mg "places_of" s_places_of [] [] := by
  obtain ⟨fd, F⟩ := c.def_ 26 (d := d_places_of) rfl
  exact ⟨_, fd, F, He.glo_ok X G (c.fact 26 (f := .glo "places_of") rfl)⟩
theorem D_results_of : Def K mg "results_of" s_results_of [] [] := by
  obtain ⟨fd, F⟩ := c.def_ 27 (d := d_results_of) rfl
  exact ⟨_, fd, F, He.glo_ok X G (c.fact 27 (f := .glo "results_of") rfl)⟩
theorem D_steps_by : Def K mg "steps_by" s_steps_by [] [] := by
  obtain ⟨fd, F⟩ := c.def_ 28 (d := d_steps_by) rfl
  exact ⟨_, fd, F, He.glo_ok X G (c.fact 28 (f := .glo "steps_by") rfl)⟩
theorem D_next_ones : Def K mg "next_ones" s_next_ones [] [] := by
  obtain ⟨fd, F⟩ := c.def_ 29 (d := d_next_ones) rfl
  exact ⟨_, fd, F, He.glo_ok X G (c.fact 29 (f := .glo "next_ones") rfl)⟩
theorem D_lies_at_most : Def K mg "lies_at_most" s_lies_at_most [] [] := by
  obtain ⟨fd, F⟩ := c.def_ 30 (d := d_lies_at_most) rfl
  exact ⟨_, fd, F, He.glo_ok X G (c.fact 30 (f := .glo "lies_at_most") rfl)⟩
theorem D_is_at_most : Def K mg "is_at_most" s_is_at_most [] [] := by
  obtain ⟨fd, F⟩ := c.def_ 31 (d := d_is_at_most) rfl
  exact ⟨_, fd, F, He.glo_ok X G (c.fact 31 (f := .glo "is_at_most") rfl)⟩
theorem D_next_ones_below : Def K mg "next_ones_below" s_next_ones_below [] [] := by
  obtain ⟨fd, F⟩ := c.def_ 32 (d := d_next_ones_below) rfl
  exact ⟨_, fd, F, He.glo_ok X G (c.fact 32 (f := .glo "next_ones_below") rfl)⟩
theorem D_next_less : Def K mg "next_less" s_next_less [] [] := by
  obtain ⟨fd, F⟩ := c.def_ 33 (d := d_next_less) rfl
  exact ⟨_, fd, F, He.glo_ok X G (c.fact 33 (f := .glo "next_less") rfl)⟩
theorem D_law_tape : Def K mg "_law_tape" s_law_tape [] [] := by
  obtain ⟨fd, F⟩ := c.def_ 34 (d := d_law_tape) rfl
  exact ⟨_, fd, F, He.glo_ok X G (c.fact 34 (f := .glo "_law_tape") rfl)⟩
theorem D_law_draw : Def K mg "_law_draw" s_law_draw [] [] := by
  obtain ⟨fd, F⟩ := c.def_ 35 (d := d_law_draw) rfl
  exact ⟨_, fd, F, He.glo_ok X G (c.fact 35 (f := .glo "_law_draw") rfl)⟩
theorem D_law_pick : Def K mg "_law_pick" s_law_pick [] [] := by
  obtain ⟨fd, F⟩ := c.def_ 36 (d := d_law_pick) rfl
  exact ⟨_, fd, F, He.glo_ok X G (c.fact 36 (f := .glo "_law_pick") rfl)⟩
theorem D_law_signs : Def K mg "_law_signs" s_law_signs [] [] := by
  obtain ⟨fd, F⟩ := c.def_ 37 (d := d_law_signs) rfl
  exact ⟨_, fd, F, He.glo_ok X G (c.fact 37 (f := .glo "_law_signs") rfl)⟩
theorem D_law_rows : Def K mg "_law_rows" s_law_rows [] [] := by
  obtain ⟨fd, F⟩ := c.def_ 38 (d := d_law_rows) rfl
  exact ⟨_, fd, F, He.glo_ok X G (c.fact 38 (f := .glo "_law_rows") rfl)⟩
theorem D_law_norm : Def K mg "_law_norm" s_law_norm [] [] := by
  obtain ⟨fd, F⟩ := c.def_ 39 (d := d_law_norm) rfl
  exact ⟨_, fd, F, He.glo_ok X G (c.fact 39 (f := .glo "_law_norm") rfl)⟩
theorem D_law_page : Def K mg "_law_page" s_law_page [] [] := by
  obtain ⟨fd, F⟩ := c.def_ 40 (d := d_law_page) rfl
  exact ⟨_, fd, F, He.glo_ok X G (c.fact 40 (f := .glo "_law_page") rfl)⟩
theorem D_law_letters : Def K mg "_law_letters" s_law_letters [] [] := by
  obtain ⟨fd, F⟩ := c.def_ 41 (d := d_law_letters) rfl
  exact ⟨_, fd, F, He.glo_ok X G (c.fact 41 (f := .glo "_law_letters") rfl)⟩
theorem D_law_word : Def K mg "_law_word" s_law_word [] [] := by
  obtain ⟨fd, F⟩ := c.def_ 42 (d := d_law_word) rfl
  exact ⟨_, fd, F, He.glo_ok X G (c.fact 42 (f := .glo "_law_word") rfl)⟩
theorem D_law_places : Def K mg "_law_places" s_law_places [] [] := by
  obtain ⟨fd, F⟩ := c.def_ 43 (d := d_law_places) rfl
  exact ⟨_, fd, F, He.glo_ok X G (c.fact 43 (f := .glo "_law_places") rfl)⟩
theorem D_law_results : Def K mg "_law_results" s_law_results [] [] := by
  obtain ⟨fd, F⟩ := c.def_ 44 (d := d_law_results) rfl
  exact ⟨_, fd, F, He.glo_ok X G (c.fact 44 (f := .glo "_law_results") rfl)⟩
theorem D_law_steps : Def K mg "_law_steps" s_law_steps [] [] := by
  obtain ⟨fd, F⟩ := c.def_ 45 (d := d_law_steps) rfl
  exact ⟨_, fd, F, He.glo_ok X G (c.fact 45 (f := .glo "_law_steps") rfl)⟩
theorem D_law_mirrored : Def K mg "_law_mirrored" s_law_mirrored [] [] := by
  obtain ⟨fd, F⟩ := c.def_ 46 (d := d_law_mirrored) rfl
  exact ⟨_, fd, F, He.glo_ok X G (c.fact 46 (f := .glo "_law_mirrored") rfl)⟩
theorem D_law_are_steps : Def K mg "_law_are_steps" s_law_are_steps [] [] := by
  obtain ⟨fd, F⟩ := c.def_ 47 (d := d_law_are_steps) rfl
  exact ⟨_, fd, F, He.glo_ok X G (c.fact 47 (f := .glo "_law_are_steps") rfl)⟩
theorem D_law_is_put : Def K mg "_law_is_put" s_law_is_put [] [] := by
  obtain ⟨fd, F⟩ := c.def_ 48 (d := d_law_is_put) rfl
  exact ⟨_, fd, F, He.glo_ok X G (c.fact 48 (f := .glo "_law_is_put") rfl)⟩
theorem D_law_is_moved : Def K mg "_law_is_moved" s_law_is_moved [] [] := by
  obtain ⟨fd, F⟩ := c.def_ 49 (d := d_law_is_moved) rfl
  exact ⟨_, fd, F, He.glo_ok X G (c.fact 49 (f := .glo "_law_is_moved") rfl)⟩
theorem D_law_are_far : Def K mg "_law_are_far" s_law_are_far [] [] := by
  obtain ⟨fd, F⟩ := c.def_ 50 (d := d_law_are_far) rfl
  exact ⟨_, fd, F, He.glo_ok X G (c.fact 50 (f := .glo "_law_are_far") rfl)⟩
end
theorem law_fn {P : Program} {w : World} {K : PySem.W.Frag} {h : Heap} {mg : Str → Option Value} {f : Addr} (X : K.In h) (G : h.Ns mainGlobals mg) (hfa : mg ("law" : Str) = some (.ref f)) (sb : sidesB K = true) (c : He.SaysD fa fn K) :
    ∃ fd : FuncData, (∀ (s : Shared) (v : Value), BindsTo s fd ⟨[v], []⟩ [("_law_script", v)]) ∧ ∀ base : Heap, K.In base → base.Ns mainGlobals mg → FnG P w K mg base 11 f fd ["_law_script"] (spLaw K) := by
  obtain ⟨fd, F⟩ := c.def_ 51 (d := d_law) rfl
  have e := hfa.symm.trans (He.glo_ok X G (c.fact 51 (f := .glo "law") rfl))
  cases e
  have b := FunD.bindsA (ps := ["_law_script"]) F fun _ _ _ _ _ _ us hl => match us, hl with | [_], _ => rfl
  refine ⟨fd, fun s v => b s [v] rfl, fun base _ _ => ?_⟩
  have B := bt_ok X G c sb
  obtain ⟨fdI, FI⟩ := c.def_ 52 (d := d_Book__init__) rfl
  obtain ⟨fdC, FC⟩ := c.def_ 53 (d := d_Book__call__) rfl
  have bc : BookC K mg (He.ga K "Book") := ⟨He.cls_ok (c.fact 53 (f := .cls "Book") rfl), He.noat_ok (c.fact 56 (f := .noat "Book" "held_letters") rfl), He.noat_ok (c.fact 57 (f := .noat "Book" "held_rules") rfl), He.glo_ok X G (c.fact 52 (f := .glo "Book") rfl)⟩
  have mk := He.mkr_ok (c.fact 54 (f := .mkr "Book") rfl)
  have mt := He.meth_ok (c.fact 55 (f := .meth "Book" "__call__") rfl)
  have h_is_integer := h_is_integer (P := P) (w := w) (base := base) B (D_is_integer X G c)
  have h_is_number := h_is_number (P := P) (w := w) (base := base) B (D_is_number X G c) h_is_integer
  have h_is_letter := h_is_letter (P := P) (w := w) (base := base) B (D_is_letter X G c)
  have h_is_thing := h_is_thing (P := P) (w := w) (base := base) B (D_is_thing X G c)
  have h_is_rising_row := h_is_rising_row (P := P) (w := w) (base := base) B (D_is_rising_row X G c)
  have h_is_letter_set := h_is_letter_set (P := P) (w := w) (base := base) B (D_is_letter_set X G c) h_is_letter h_is_rising_row
  have h_is_pair := h_is_pair (P := P) (w := w) (base := base) B (D_is_pair X G c)
  have h_is_entry := h_is_entry (P := P) (w := w) (base := base) B (D_is_entry X G c) h_is_pair h_is_letter h_is_letter_set
  have h_is_side := h_is_side (P := P) (w := w) (base := base) B (D_is_side X G c)
  have h_is_rule := h_is_rule (P := P) (w := w) (base := base) B (D_is_rule X G c) h_is_number h_is_side h_is_letter h_is_thing
  have h_reached_letters := h_reached_letters (P := P) (w := w) (base := base) B (D_reached_letters X G c)
  have h_are_letters_known := h_are_letters_known (P := P) (w := w) (base := base) B (D_are_letters_known X G c)
  have h_letters_fault := h_letters_fault (P := P) (w := w) (base := base) B (D_letters_fault X G c) h_is_entry h_reached_letters
  have h_book_fault := h_book_fault (P := P) (w := w) (base := base) B (D_book_fault X G c) h_is_pair h_letters_fault h_is_rule h_are_letters_known
  have h_want := h_want (P := P) (w := w) (base := base) (K := K) (D_want X G c)
  have h_known_letters := h_known_letters (P := P) (w := w) (base := base) B (D_known_letters X G c)
  have h_is_thing_of := h_is_thing_of (P := P) (w := w) (base := base) B (D_is_thing_of X G c) h_known_letters h_is_thing
  have h_is_rule_of := h_is_rule_of (P := P) (w := w) (base := base) (D_is_rule_of X G c) h_is_rule h_are_letters_known h_known_letters
  have h_want_thing := h_want_thing (P := P) (w := w) (base := base) (D_want_thing X G c) h_want h_is_thing_of
  have h_lets_book := h_lets_book (P := P) (w := w) (base := base) B (D_lets_book X G c) h_book_fault
  have h_put_in := h_put_in (P := P) (w := w) (base := base) (D_put_in X G c)
  obtain ⟨h_with_rule, hk_with_rule⟩ := h_with_rule (P := P) (w := w) (base := base) B (D_with_rule X G c) h_want h_is_rule_of h_is_number h_put_in
  have h_without_rule := h_without_rule (P := P) (w := w) (base := base) (D_without_rule X G c) h_want h_is_number B
  have h_moved_rule := h_moved_rule (P := P) (w := w) (base := base) (D_moved_rule X G c) h_want h_is_number h_put_in B
  have h_mirrored_rule := h_mirrored_rule (P := P) (w := w) (base := base) (D_mirrored_rule X G c)
  have h_mirrored := h_mirrored (P := P) (w := w) (base := base) B (D_mirrored X G c) h_mirrored_rule
  have h_places_of := h_places_of (P := P) (w := w) (base := base) B (D_places_of X G c)
  have h_results_of := h_results_of (P := P) (w := w) (base := base) B (D_results_of X G c) h_places_of
  have h_steps_by := h_steps_by (P := P) (w := w) (base := base) B (D_steps_by X G c) h_results_of
  have h_next_ones := h_next_ones (P := P) (w := w) (base := base) (D_next_ones X G c) h_reached_letters
  have h_lies_at_most := h_lies_at_most (P := P) (w := w) (base := base) B (D_lies_at_most X G c) h_reached_letters
  have h_is_at_most := h_is_at_most (P := P) (w := w) (base := base) B (D_is_at_most X G c) h_want_thing h_lies_at_most
  have h_next_ones_below := h_next_ones_below (P := P) (w := w) (base := base) B (D_next_ones_below X G c) h_next_ones
  have h_next_less := h_next_less (P := P) (w := w) (base := base) B (D_next_less X G c) h_want_thing h_next_ones_below
  have hBI := r_Bookinit (P := P) (w := w) (base := base) rfl FI bc h_lets_book
  have hBC := r_Bookcall (P := P) (w := w) (base := base) B FC bc h_want_thing h_steps_by
  have hfi : PySem.W.fnIn K (He.ma K (He.ga K "Book") "__call__") = true := by
    obtain ⟨oc, od, dV, kV, doc, pm, an, cdv, ct, osl, e1, e2, _⟩ := FC.ex
    unfold PySem.W.fnIn
    rw [show K.lookup (He.ma K (He.ga K "Book") "__call__") = _ from e2]
  have hBk : BookH P w K mg base := by
    obtain ⟨ps, k1, k2⟩ := hBI
    exact ⟨_, bc, ⟨_, fdI, ps, mk, k1, k2⟩, _, ⟨mt.at_, mt.fn, hfi⟩, hBC⟩
  have h__law_tape := h_law_tape (P := P) (w := w) (base := base) (D_law_tape X G c)
  have h__law_draw := h_law_draw (P := P) (w := w) (base := base) B (D_law_draw X G c)
  have h__law_pick := h_law_pick (P := P) (w := w) (base := base) B (D_law_pick X G c) h__law_draw
  have h__law_signs := h_law_signs (P := P) (w := w) (base := base) B (D_law_signs X G c) h__law_draw
  have h__law_rows := h_law_rows (P := P) (w := w) (base := base) B (D_law_rows X G c) h__law_draw
  have h__law_norm := h_law_norm (P := P) (w := w) (base := base) B (D_law_norm X G c) h__law_draw h__law_pick
  have h__law_page := h_law_page (P := P) (w := w) (base := base) B (D_law_page X G c) h__law_draw h__law_signs h__law_rows h__law_norm
  have h__law_letters := h_law_letters (P := P) (w := w) (base := base) B (D_law_letters X G c)
  have h__law_word := h_law_word (P := P) (w := w) (base := base) B (D_law_word X G c) h__law_draw h__law_pick
  have h__law_places := h_law_places (P := P) (w := w) (base := base) B (D_law_places X G c)
  have h__law_results := h_law_results (P := P) (w := w) (base := base) B (D_law_results X G c) h__law_places
  have h__law_steps := h_law_steps (P := P) (w := w) (base := base) B (D_law_steps X G c) h__law_results
  have h__law_mirrored := h_law_mirrored (P := P) (w := w) (base := base) (D_law_mirrored X G c)
  have h__law_are_steps := h_law_are_steps (P := P) (w := w) (base := base) B (D_law_are_steps X G c) hBk h__law_steps
  have h__law_is_put := h_law_is_put (P := P) (w := w) (base := base) B (D_law_is_put X G c) h_with_rule hk_with_rule h_without_rule h__law_are_steps
  have h__law_is_moved := h_law_is_moved (P := P) (w := w) (base := base) B (D_law_is_moved X G c) h_moved_rule h_without_rule h__law_are_steps
  have h__law_are_far := h_law_are_far (P := P) (w := w) (base := base) (D_law_are_far X G c) h__law_are_steps
  exact h_law B F h__law_tape h__law_are_far h__law_page h__law_letters h__law_word h__law_norm h_mirrored h__law_are_steps h__law_is_put h__law_is_moved h_with_rule h__law_mirrored h_next_less h_is_at_most
theorem room11 : Room 11 callerA := ⟨rfl, by decide, by decide⟩
end Fk
open PySem PySem.W PySem.Calls PyProof.Rows
theorem PySem.Challenge.cw_firstfailing_k12_whole_rules_there_and_b_holds : PySem.Challenge.rw_firstfailing_k12_whole_rules_there_and_b.Holds :=
by
  w_on; o_law
  refine HandSHeadRun.head_any (r := OpenLaw.row PySem.Challenge.rw_firstfailing_k12_whole_rules_there_and_b) (q := view (OpenLaw.row PySem.Challenge.rw_firstfailing_k12_whole_rules_there_and_b).prog [Fk.lawPlace]) (H := Fk.hk) (ob := Fk.ob) (M := 20000) (loose := Fk.loose) (d := HandSHeadRun.topDef (OpenLaw.row PySem.Challenge.rw_firstfailing_k12_whole_rules_there_and_b).prog Fk.lawPlace) (kwd := []) Fk.ob_eq
    (by kernel_rfl) (fun s => by kernel_rfl) Fk.run (by kernel_rfl) (by kernel_rfl) (by kernel_rfl) (by rfl) (by first | assumption | decide +kernel) (by decide +kernel) ⟨rfl, rfl, rfl, rfl, rfl, by decide +kernel⟩ ?hw ?hc
  case hw => w_witness2
  case hc =>
    refine Fk.walk_G (l := PySem.Challenge.rw_firstfailing_k12_whole_rules_there_and_b) (n := 63) (k := 11) (x := "_law_script") rfl (by decide) (by kernel_rfl) Fk.room11 ?F
    intro w mg fa h Y G hmg0
    obtain ⟨K, KX, sb, c⟩ := Y
    have hmg : mg ("law" : PySem.Str) = some (.ref fa) := by
      have e : (HandSHeadRun.topDef (OpenLaw.row PySem.Challenge.rw_firstfailing_k12_whole_rules_there_and_b).prog Fk.lawPlace).name = ("law" : PySem.Str) := by kernel_rfl
      rw [← e]
      exact hmg0
    obtain ⟨fd, hb, hF⟩ := Fk.law_fn (P := (PySem.Challenge.rw_firstfailing_k12_whole_rules_there_and_b).prog) (w := w) KX G hmg sb c
    exact ⟨K, fd, Fk.spLaw K, KX, hb, fun H a ns hS => ⟨a, ns, rfl, hS, fun _ => rfl⟩, hF⟩
