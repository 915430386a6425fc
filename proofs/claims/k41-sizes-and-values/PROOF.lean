import PyProof.Rows.All
import Wide.All
import OpenK.AllK
import Wide.FinOn
import HandS.ForMost
import HandS.IsInst
import HandS.Zip
import HandS.TupAny
import HandS.TupMul
import HandS.Deep
import HandS.Style
import HandS.Flow
import HandS.Walk
import HandS.More
import PyProof.ListMulRoad
import PyProof.FactsAll.tuple_2
import PySem.Challenge.RW_oneowner_k41_sizes_and_values
set_option Elab.async false
set_option linter.all false
set_option maxRecDepth 100000
namespace My
open PySem L2
def topS (i : Nat) : Stmt := PySem.Challenge.pw_oneowner_k41_sizes_and_values.main.body.getD i (.Pass ⟨0, 0, 0, 0⟩)
abbrev sNumber : Stmt := topS 3
abbrev sHasWord : Stmt := topS 4
abbrev sNamed : Stmt := topS 5
abbrev sFlatSize : Stmt := topS 6
abbrev sSumSizes : Stmt := topS 7
abbrev sSizeOf : Stmt := topS 8
abbrev sField : Stmt := topS 9
abbrev sPart : Stmt := topS 10
abbrev sAreVals : Stmt := topS 11
abbrev sIsVal : Stmt := topS 12
abbrev sDraws : Stmt := topS 14
abbrev sTake : Stmt := topS 15
abbrev sStart : Stmt := topS 16
abbrev sData : Stmt := topS 17
abbrev sInside : Stmt := topS 18
abbrev sBook : Stmt := topS 19
abbrev sFlat : Stmt := topS 20
abbrev sValue : Stmt := topS 21
abbrev sSpoilt : Stmt := topS 22
abbrev sAllAre : Stmt := topS 23
abbrev sLIsVal : Stmt := topS 24
abbrev sFinite : Stmt := topS 25
abbrev sPlaces : Stmt := topS 26
abbrev sLaw : Stmt := topS 27
theorem scNumber : FnScope ["thing", "many"] ["thing", "many"] (defScope sNumber) := ⟨rfl, rfl, rfl, by decide +kernel, rfl, by decide +kernel, by decide +kernel⟩
theorem scNamed : FnScope ["book", "kind", "known", "sums", "tag"] ["book", "kind", "known"] (defScope sNamed) := ⟨rfl, rfl, rfl, by decide +kernel, rfl, by decide +kernel, by decide +kernel⟩
end My
set_option maxRecDepth 100000
set_option maxHeartbeats 1000000
namespace My
open PySem L2
/-! ### kinds, books -/
inductive Kd where
  | int | bool
  | box (k : Kd) | vec (k : Kd)
  | rcd (n : Nat) | vrt (n : Nat)
  | rf (k : Kd) | mt (k : Kd)
  deriving DecidableEq
def Kd.hd : Kd → Str
  | .int => "int" | .bool => "bool" | .box _ => "box" | .vec _ => "vec" | .rcd _ => "record" | .vrt _ => "variant" | .rf _ => "ref" | .mt _ => "mut"
def kdD : Kd → PyData
  | .int => .tuple [.str "int"]
  | .bool => .tuple [.str "bool"]
  | .box k => .tuple [.str "box", kdD k]
  | .vec k => .tuple [.str "vec", kdD k]
  | .rcd n => .tuple [.str "record", .int n]
  | .vrt n => .tuple [.str "variant", .int n]
  | .rf k => .tuple [.str "ref", kdD k]
  | .mt k => .tuple [.str "mut", kdD k]
structure Bk where
  rs : List (List Kd)
  vs : List (List (List Kd))
def ksD (ks : List Kd) : PyData := .tuple (ks.map kdD)
def tsD (ts : List (List Kd)) : PyData := .tuple (ts.map ksD)
def bkD (B : Bk) : PyData := .tuple [tsD B.rs, .tuple (B.vs.map tsD)]
def Kd.fits (a b : Nat) : Kd → Prop
  | .int | .bool => True
  | .box k | .vec k => k.fits a b
  | .rcd n => n < a
  | .vrt n => n < b
  | .rf _ | .mt _ => False
def Kd.rk : Kd → Nat
  | .rcd n => 2 * n + 1
  | .vrt n => 2 * n + 2
  | _ => 0
def Kd.wt : Kd → Nat
  | .box k => k.wt + 1
  | .vec k => max 2 k.wt
  | .rcd _ => 2
  | .vrt _ => 2
  | _ => 0
def Kd.dep : Kd → Nat
  | .box k | .vec k | .rf k | .mt k => k.dep + 1
  | _ => 1
structure Good (a b r : Nat) (k : Kd) : Prop where
  fits : k.fits a b
  wt : k.wt ≤ 4
  dep : k.dep ≤ 4
  rk : k.rk ≤ r
theorem Good.mono {a b r r' : Nat} {k : Kd} (h : Good a b r k) (hr : r ≤ r') : Good a b r' k := ⟨h.fits, h.wt, h.dep, Nat.le_trans h.rk hr⟩
theorem Good.box {a b r : Nat} {k : Kd} (h : Good a b r (.box k)) (hr : k.rk ≤ 6) : Good a b 6 k := ⟨h.fits, by have := h.wt; simp only [Kd.wt] at this; omega, by have := h.dep; simp only [Kd.dep] at this; omega, hr⟩
structure Bk.Ok (B : Bk) : Prop where
  r1 : 1 ≤ B.rs.length
  r3 : B.rs.length ≤ 3
  v1 : 1 ≤ B.vs.length
  v3 : B.vs.length ≤ 3
  rf : ∀ n fs, B.rs[n]? = some fs → fs.length ≤ 3 ∧ ∀ k ∈ fs, Good B.rs.length B.vs.length (2 * n) k
  vf : ∀ n ts, B.vs[n]? = some ts → 1 ≤ ts.length ∧ ts.length ≤ 3 ∧ ∀ ps ∈ ts, ps.length ≤ 2 ∧ ∀ k ∈ ps, Good B.rs.length B.vs.length (2 * n + 1) k
theorem rk_le {B : Bk} (O : B.Ok) : ∀ {k : Kd}, k.fits B.rs.length B.vs.length → k.rk ≤ 6
  | .int, _ | .bool, _ | .box _, _ | .vec _, _ | .rf _, _ | .mt _, _ => Nat.zero_le _
  | .rcd n, h => by have h' : n < B.rs.length := h; have := O.r3; simp only [Kd.rk]; omega
  | .vrt n, h => by have h' : n < B.vs.length := h; have := O.v3; simp only [Kd.rk]; omega
abbrev KG (B : Bk) (k : Kd) : Prop := Good B.rs.length B.vs.length 6 k
theorem KG.box {B : Bk} (O : B.Ok) {k : Kd} (h : KG B (.box k)) : KG B k := Good.box h (rk_le O h.fits)
theorem KG.vec {B : Bk} (O : B.Ok) {k : Kd} (h : KG B (.vec k)) : KG B k := ⟨h.fits, by have := h.wt; simp only [Kd.wt] at this; omega, by have := h.dep; simp only [Kd.dep] at this; omega, rk_le O (k := k) h.fits⟩
/-! ### sizes -/
def mx : List Int → Int
  | [] => 0
  | [x] => x
  | x :: y :: r => if mx (y :: r) ≤ x then x else mx (y :: r)
theorem mx_mem : ∀ (x : Int) (r : List Int), mx (x :: r) ∈ x :: r
  | x, [] => by simp [mx]
  | x, y :: r => by
    have h := mx_mem y r
    unfold mx
    split
    · simp
    · exact List.mem_cons_of_mem _ h
theorem mx_le : ∀ (xs : List Int) (z : Int), z ∈ xs → z ≤ mx xs
  | [], z, h => by simp at h
  | [x], z, h => by simp at h; subst h; simp [mx]
  | x :: y :: r, z, h => by
    unfold mx
    rcases List.mem_cons.mp h with h | h
    · subst h; split <;> omega
    · have := mx_le (y :: r) z h
      split <;> omega
theorem mx_eq {xs : List Int} {m : Int} (hm : m ∈ xs) (hle : ∀ y ∈ xs, y ≤ m) : m = mx xs := by
  cases xs with
  | nil => simp at hm
  | cons x r => exact Int.le_antisymm (mx_le _ _ hm) (hle _ (mx_mem x r))
def fl (B : Bk) : Nat → Kd → Int
  | 0, _ => 0
  | _ + 1, .vec _ => 3
  | f + 1, .rcd n => ((B.rs.getD n []).map (fl B f)).sum
  | f + 1, .vrt n => 1 + mx ((B.vs.getD n []).map fun ps => (ps.map (fl B f)).sum)
  | _ + 1, _ => 1
theorem getD_of {α : Type} {l : List α} {n : Nat} {x d : α} (h : l[n]? = some x) : l.getD n d = x := by rw [List.getD_eq_getElem?_getD, h]; rfl
theorem fl_fuel {B : Bk} (O : B.Ok) : ∀ (f g : Nat) (k : Kd), k.fits B.rs.length B.vs.length → k.rk ≤ f → k.rk ≤ g → fl B (f + 1) k = fl B (g + 1) k
  | f, g, .int, _, _, _ | f, g, .bool, _, _, _ | f, g, .box _, _, _, _ | f, g, .vec _, _, _, _ | f, g, .rf _, _, _, _ | f, g, .mt _, _, _, _ => rfl
  | 0, _, .rcd n, _, h, _ => by simp [Kd.rk] at h
  | _, 0, .rcd n, _, _, h => by simp [Kd.rk] at h
  | 0, _, .vrt n, _, h, _ => by simp [Kd.rk] at h
  | _, 0, .vrt n, _, _, h => by simp [Kd.rk] at h
  | f + 1, g + 1, .rcd n, hf, h1, h2 => by
    have hn : n < B.rs.length := hf
    have e : B.rs[n]? = some B.rs[n] := List.getElem?_eq_getElem hn
    show ((B.rs.getD n []).map (fl B (f + 1))).sum = ((B.rs.getD n []).map (fl B (g + 1))).sum
    rw [getD_of e]
    refine congrArg List.sum (List.map_congr_left fun k hk => ?_)
    have q := (O.rf n _ e).2 k hk
    have := q.rk
    simp only [Kd.rk] at h1 h2
    exact fl_fuel O f g k q.fits (by omega) (by omega)
  | f + 1, g + 1, .vrt n, hf, h1, h2 => by
    have hn : n < B.vs.length := hf
    have e : B.vs[n]? = some B.vs[n] := List.getElem?_eq_getElem hn
    show 1 + mx ((B.vs.getD n []).map fun ps => (ps.map (fl B (f + 1))).sum) = 1 + mx ((B.vs.getD n []).map fun ps => (ps.map (fl B (g + 1))).sum)
    rw [getD_of e]
    refine congrArg (fun z => 1 + mx z) (List.map_congr_left fun ps hps => congrArg List.sum (List.map_congr_left fun k hk => ?_))
    have q := ((O.vf n _ e).2.2 ps hps).2 k hk
    have := q.rk
    simp only [Kd.rk] at h1 h2
    exact fl_fuel O f g k q.fits (by omega) (by omega)
def size (B : Bk) (k : Kd) : Int := fl B 7 k
def sizes (B : Bk) (ks : List Kd) : Int := (ks.map (size B)).sum
theorem size_rec {B : Bk} (O : B.Ok) {n : Nat} {fs : List Kd} (e : B.rs[n]? = some fs) : size B (.rcd n) = sizes B fs := by
  show ((B.rs.getD n []).map (fl B 6)).sum = (fs.map (fl B 7)).sum
  rw [getD_of e]
  refine congrArg List.sum (List.map_congr_left fun k hk => ?_)
  have q := (O.rf n _ e).2 k hk
  have h1 := (List.getElem?_eq_some_iff.mp e).1
  have := q.rk
  have := O.r3
  exact fl_fuel O 5 6 k q.fits (by omega) (by omega)
theorem size_var {B : Bk} (O : B.Ok) {n : Nat} {ts : List (List Kd)} (e : B.vs[n]? = some ts) : size B (.vrt n) = 1 + mx (ts.map (sizes B)) := by
  show 1 + mx ((B.vs.getD n []).map fun ps => (ps.map (fl B 6)).sum) = 1 + mx (ts.map fun ps => (ps.map (fl B 7)).sum)
  rw [getD_of e]
  refine congrArg (fun z => 1 + mx z) (List.map_congr_left fun ps hps => congrArg List.sum (List.map_congr_left fun k hk => ?_))
  have q := ((O.vf n _ e).2.2 ps hps).2 k hk
  have h1 := (List.getElem?_eq_some_iff.mp e).1
  have := q.rk
  have := O.v3
  exact fl_fuel O 5 6 k q.fits (by omega) (by omega)
theorem sum_nonneg : ∀ {xs : List Int}, (∀ x ∈ xs, 0 ≤ x) → 0 ≤ xs.sum
  | [], _ => by simp
  | x :: r, h => by
    have h1 := h x (by simp)
    have h2 := sum_nonneg (xs := r) fun y hy => h y (by simp [hy])
    rw [List.sum_cons]; omega
theorem mx_nonneg {xs : List Int} (h : ∀ x ∈ xs, 0 ≤ x) : 0 ≤ mx xs := by
  cases xs with
  | nil => simp [mx]
  | cons x r => exact h _ (mx_mem x r)
theorem fl_nonneg (B : Bk) : ∀ (f : Nat) (k : Kd), 0 ≤ fl B f k
  | 0, _ => Int.le_refl 0
  | f + 1, .vec _ => by simp [fl]
  | f + 1, .rcd n => sum_nonneg fun x hx => by
    obtain ⟨k, _, rfl⟩ := List.mem_map.mp hx
    exact fl_nonneg B f k
  | f + 1, .vrt n => by
    have h : 0 ≤ mx ((B.vs.getD n []).map fun ps => (ps.map (fl B f)).sum) := mx_nonneg fun x hx => by
      obtain ⟨ps, _, rfl⟩ := List.mem_map.mp hx
      refine sum_nonneg fun y hy => ?_
      obtain ⟨k, _, rfl⟩ := List.mem_map.mp hy
      exact fl_nonneg B f k
    show 0 ≤ 1 + mx _
    omega
  | f + 1, .int => by simp [fl]
  | f + 1, .bool => by simp [fl]
  | f + 1, .box _ => by simp [fl]
  | f + 1, .rf _ => by simp [fl]
  | f + 1, .mt _ => by simp [fl]
theorem size_nonneg (B : Bk) (k : Kd) : 0 ≤ size B k := fl_nonneg B 7 k
theorem sizes_nonneg (B : Bk) (ks : List Kd) : 0 ≤ sizes B ks := sum_nonneg fun x hx => by
  obtain ⟨k, _, rfl⟩ := List.mem_map.mp hx
  exact size_nonneg B k
/-! ### what ends: the path of the first tags -/
inductive FinD (B : Bk) : Nat → Kd → Prop
  | int {n : Nat} : FinD B n .int
  | bool {n : Nat} : FinD B n .bool
  | vec {n : Nat} {k : Kd} : 2 ≤ n → FinD B n (.vec k)
  | box {n : Nat} {k : Kd} : FinD B n k → FinD B (n + 1) (.box k)
  | rcd {n m : Nat} {fs : List Kd} : B.rs[m]? = some fs → (∀ k ∈ fs, FinD B n k) → FinD B (n + 2) (.rcd m)
  | vrt {n m : Nat} {ts : List (List Kd)} {ps : List Kd} : B.vs[m]? = some ts → ts[0]? = some ps → (∀ k ∈ ps, FinD B n k) → FinD B (n + 2) (.vrt m)
theorem FinD.mono {B : Bk} {n : Nat} {k : Kd} (h : FinD B n k) : ∀ {m : Nat}, n ≤ m → FinD B m k := by
  induction h with
  | int => intro m _; exact .int
  | bool => intro m _; exact .bool
  | vec h => intro m hm; exact .vec (by omega)
  | box _ ih =>
    intro m hm
    obtain ⟨m', rfl⟩ : ∃ m', m = m' + 1 := ⟨m - 1, by omega⟩
    exact .box (ih (by omega))
  | rcd e _ ih =>
    intro m hm
    obtain ⟨m', rfl⟩ : ∃ m', m = m' + 2 := ⟨m - 2, by omega⟩
    exact .rcd e fun k hk => ih k hk (by omega)
  | vrt e e2 _ ih =>
    intro m hm
    obtain ⟨m', rfl⟩ : ∃ m', m = m' + 2 := ⟨m - 2, by omega⟩
    exact .vrt e e2 fun k hk => ih k hk (by omega)
def fin (B : Bk) : Nat → List Kd → Kd → Bool
  | 0, _, _ => false
  | n + 1, seen, k => if k ∈ seen then false else match k with
    | .box k' => fin B n seen k'
    | .rcd m => (B.rs.getD m []).all fun f => fin B n (seen ++ [k]) f
    | .vrt m => ((B.vs.getD m []).getD 0 []).all fun f => fin B n (seen ++ [k]) f
    | _ => true
def named (B : Bk) : List Kd := (List.range B.rs.length).map Kd.rcd ++ (List.range B.vs.length).map Kd.vrt
def free (B : Bk) (seen : List Kd) : Nat := ((named B).filter fun k => decide (k ∉ seen)).length
theorem filter_lt {α : Type} {p q : α → Bool} {x : α} : ∀ {l : List α}, (∀ y, p y = true → q y = true) → x ∈ l → q x = true → p x = false → (l.filter p).length < (l.filter q).length
  | [], _, h, _, _ => by simp at h
  | y :: r, hpq, h, hq, hp => by
    have le : ∀ l : List α, (l.filter p).length ≤ (l.filter q).length := fun l => by
      induction l with
      | nil => simp
      | cons z t ih =>
        by_cases hz : p z = true
        · rw [List.filter_cons_of_pos hz, List.filter_cons_of_pos (hpq z hz)]; simp only [List.length_cons]; omega
        · rw [List.filter_cons_of_neg hz]
          by_cases hz2 : q z = true
          · rw [List.filter_cons_of_pos hz2]; simp only [List.length_cons]; omega
          · rw [List.filter_cons_of_neg hz2]; exact ih
    rcases List.mem_cons.mp h with e | h
    · subst e
      rw [List.filter_cons_of_neg (by rw [hp]; exact Bool.false_ne_true), List.filter_cons_of_pos hq]
      have := le r
      simp only [List.length_cons]; omega
    · have ih := filter_lt hpq h hq hp
      by_cases hz : p y = true
      · rw [List.filter_cons_of_pos hz, List.filter_cons_of_pos (hpq y hz)]; simp only [List.length_cons]; omega
      · rw [List.filter_cons_of_neg hz]
        by_cases hz2 : q y = true
        · rw [List.filter_cons_of_pos hz2]; simp only [List.length_cons]; omega
        · rw [List.filter_cons_of_neg hz2]; exact ih
theorem free_lt {B : Bk} {seen : List Kd} {k : Kd} (hk : k ∈ named B) (hn : k ∉ seen) : free B (seen ++ [k]) < free B seen :=
  filter_lt (fun y hy => by
    have : y ∉ seen ++ [k] := of_decide_eq_true hy
    exact decide_eq_true fun q => this (List.mem_append_left _ q)) hk (decide_eq_true hn) (decide_eq_false fun q => q (by simp))
theorem free_le {B : Bk} (O : B.Ok) (seen : List Kd) : free B seen ≤ 6 := by
  have h := List.length_filter_le (fun k => decide (k ∉ seen)) (named B)
  have e : (named B).length = B.rs.length + B.vs.length := by simp [named]
  have := O.r3
  have := O.v3
  unfold free
  omega
theorem named_rec {B : Bk} {m : Nat} (h : m < B.rs.length) : Kd.rcd m ∈ named B := by simp [named, h]
theorem named_var {B : Bk} {m : Nat} (h : m < B.vs.length) : Kd.vrt m ∈ named B := by simp [named, h]
theorem fin_FinD {B : Bk} (O : B.Ok) : ∀ (n : Nat) (seen : List Kd) (k : Kd), KG B k → fin B n seen k = true → FinD B (4 * free B seen + k.wt) k
  | 0, _, _, _, h => by simp [fin] at h
  | n + 1, seen, k, hg, h => by
    unfold fin at h
    split at h
    · cases h
    rename_i hns
    cases k with
    | int => exact .int
    | bool => exact .bool
    | rf _ => exact absurd hg.fits (fun q => q)
    | mt _ => exact absurd hg.fits (fun q => q)
    | vec k => exact .vec (by simp only [Kd.wt]; omega)
    | box k =>
      have ih := fin_FinD O n seen k (KG.box O hg) h
      exact FinD.box ih
    | rcd m =>
      have hm : m < B.rs.length := hg.fits
      have e : B.rs[m]? = some B.rs[m] := List.getElem?_eq_getElem hm
      simp only [getD_of e] at h
      refine FinD.rcd e fun f hf => ?_
      have q := (O.rf m _ e).2 f hf
      have := fin_FinD O n _ f (q.mono (by have := O.r3; omega)) (List.all_eq_true.mp h f hf)
      have lt := free_lt (named_rec hm) hns
      have := q.wt
      exact FinD.mono ‹FinD B (4 * free B (seen ++ [Kd.rcd m]) + f.wt) f› (by omega)
    | vrt m =>
      have hm : m < B.vs.length := hg.fits
      have e : B.vs[m]? = some B.vs[m] := List.getElem?_eq_getElem hm
      simp only [getD_of e] at h
      have q0 := O.vf m _ e
      obtain ⟨ps, e2⟩ : ∃ ps, (B.vs[m])[0]? = some ps := ⟨_, List.getElem?_eq_getElem (show 0 < (B.vs[m]).length from q0.1)⟩
      rw [getD_of e2] at h
      refine FinD.vrt e e2 fun f hf => ?_
      have q := (q0.2.2 ps (List.mem_of_getElem? e2)).2 f hf
      have := fin_FinD O n _ f (q.mono (by have := O.v3; omega)) (List.all_eq_true.mp h f hf)
      have lt := free_lt (named_var hm) hns
      have := q.wt
      exact FinD.mono ‹FinD B (4 * free B (seen ++ [Kd.vrt m]) + f.wt) f› (by omega)
theorem fin_top {B : Bk} (O : B.Ok) {n : Nat} {k : Kd} (hg : KG B k) (h : fin B n [] k = true) : FinD B 28 k :=
  (fin_FinD O n [] k hg h).mono (by have := free_le O []; have := hg.wt; omega)
/-! ### values -/
def gd (w : Nat) : Nat → PyData → Prop
  | _, .none => True
  | _, .bool _ => True
  | _, .int _ => True
  | _, .str s => PyData.strOk s = true
  | n + 1, .tuple ds => ds.length ≤ w ∧ ∀ d ∈ ds, gd w n d
  | _, _ => False
theorem gd.mono {w v : Nat} (hw : w ≤ v) : ∀ {n m : Nat} {d : PyData}, gd w n d → n ≤ m → gd v m d
  | n, m, .none, _, _ => by cases m <;> trivial
  | n, m, .bool _, _, _ => by cases m <;> trivial
  | n, m, .int _, _, _ => by cases m <;> trivial
  | n, m, .str _, h, _ => by cases n <;> cases m <;> exact h
  | 0, _, .tuple _, h, _ => h.elim
  | n + 1, 0, .tuple _, _, h => absurd h (by omega)
  | n + 1, m + 1, .tuple ds, h, hn => ⟨Nat.le_trans h.1 hw, fun d hd => gd.mono hw (h.2 d hd) (by omega)⟩
  | 0, _, .list _, h, _ => h.elim
  | _ + 1, _, .list _, h, _ => h.elim
  | 0, _, .dict _, h, _ => h.elim
  | _ + 1, _, .dict _, h, _ => h.elim
def isNum : PyData → Int → Bool
  | .int i, m => decide (0 ≤ i) && decide (i < m)
  | _, _ => false
def toI : PyData → Int
  | .int i => i
  | _ => 0
def isBl : PyData → Bool
  | .bool _ => true
  | _ => false
def tl (w : Str) : PyData → Option (List PyData)
  | .tuple (.str s :: rest) => if s = w then some rest else none
  | _ => none
def onT : PyData → (List PyData → Bool) → Bool
  | .tuple ds, f => f ds
  | _, _ => false
def on1 (f : PyData → Bool) : Option (List PyData) → Bool
  | some [x] => f x
  | _ => false
def on2 (f : PyData → PyData → Bool) : Option (List PyData) → Bool
  | some [x, y] => f x y
  | _ => false
def allF (f : Kd → PyData → Bool) (fs : List Kd) (ds : List PyData) : Bool := decide (fs.length = ds.length) && (fs.zip ds).all fun p => f p.1 p.2
def isVF (B : Bk) : Nat → Kd → PyData → Bool
  | _, .int, d => isNum d 4294967296
  | _, .bool, d => isBl d
  | n + 1, .box k, d => on1 (isVF B n k) (tl "box" d)
  | n + 1, .vec k, d => on1 (fun x => onT x fun ds => ds.all (isVF B n k)) (tl "vec" d)
  | n + 1, .rcd m, d => on1 (fun x => onT x fun ds => allF (isVF B n) (B.rs.getD m []) ds) (tl "record" d)
  | n + 1, .vrt m, d => on2 (fun t x => isNum t (B.vs.getD m []).length && onT x fun ds => allF (isVF B n) ((B.vs.getD m []).getD (toI t).toNat []) ds) (tl "variant" d)
  | _, _, _ => false
end My
set_option maxRecDepth 100000
set_option maxHeartbeats 1000000
namespace My
open PySem L2
/-! ### data of tuples in the heap -/
mutual
inductive Tp (H : Hp) : V → PyData → Prop
  | non : Tp H .non .none
  | bl (b : Bool) : Tp H (.bl b) (.bool b)
  | int (i : Int) : Tp H (.int i) (.int i)
  | str (x : Str) : Tp H (.str x) (.str x)
  | tup {a : Addr} {xs : List V} {ds : List PyData} : H a = some (.tup xs) → TpAll H xs ds → Tp H (.ref a) (.tuple ds)
inductive TpAll (H : Hp) : List V → List PyData → Prop
  | nil : TpAll H [] []
  | cons {v : V} {vs : List V} {d : PyData} {ds : List PyData} : Tp H v d → TpAll H vs ds → TpAll H (v :: vs) (d :: ds)
end
/-- tuples stay -/
def TSt (H H' : Hp) : Prop := ∀ b xs, H b = some (.tup xs) → H' b = some (.tup xs)
theorem TSt.of {H H' : Hp} (h : Same H H') : TSt H H' := fun b xs e => h b _ e
theorem TSt.trans {H H1 H2 : Hp} (a : TSt H H1) (b : TSt H1 H2) : TSt H H2 := fun c xs e => b c xs (a c xs e)
mutual
theorem Tp.mono {H H' : Hp} (s : TSt H H') : ∀ (d : PyData) (v : V), Tp H v d → Tp H' v d
  | .none, _, h => by cases h; exact .non
  | .bool _, _, h => by cases h; exact .bl _
  | .int _, _, h => by cases h; exact .int _
  | .str _, _, h => by cases h; exact .str _
  | .list _, _, h => by cases h
  | .dict _, _, h => by cases h
  | .tuple ds, _, h => by
    cases h with
    | tup e q => exact .tup (s _ _ e) (TpAll.mono s ds _ q)
theorem TpAll.mono {H H' : Hp} (s : TSt H H') : ∀ (ds : List PyData) (vs : List V), TpAll H vs ds → TpAll H' vs ds
  | [], _, h => by cases h; exact .nil
  | d :: ds, _, h => by
    cases h with
    | cons q r => exact .cons (Tp.mono s d _ q) (TpAll.mono s ds _ r)
end
mutual
theorem Tp.dp {K : PySem.W.Frag} {H : Hp} : ∀ (d : PyData) (v : V), Tp H v d → Dp K H v d
  | .none, _, h => by cases h; exact .non
  | .bool _, _, h => by cases h; exact .bl _
  | .int _, _, h => by cases h; exact .int _
  | .str _, _, h => by cases h; exact .str _
  | .list _, _, h => by cases h
  | .dict _, _, h => by cases h
  | .tuple ds, _, h => by
    cases h with
    | tup e q => exact .tup (SqT.of e) (TpAll.dp ds _ q)
theorem TpAll.dp {K : PySem.W.Frag} {H : Hp} : ∀ (ds : List PyData) (vs : List V), TpAll H vs ds → DpAll K H vs ds
  | [], _, h => by cases h; exact .nil
  | d :: ds, _, h => by
    cases h with
    | cons q r => exact .cons (Tp.dp d _ q) (TpAll.dp ds _ r)
end
theorem TpAll.length {H : Hp} : ∀ {ds : List PyData} {vs : List V}, TpAll H vs ds → vs.length = ds.length
  | [], _, h => by cases h; rfl
  | _ :: ds, _, h => by
    cases h with
    | cons q r => rw [List.length_cons, List.length_cons, TpAll.length r]
theorem TpAll.at {H : Hp} : ∀ {ds : List PyData} {vs : List V} {i : Nat} {d : PyData}, TpAll H vs ds → ds[i]? = some d → ∃ v, vs[i]? = some v ∧ Tp H v d
  | [], _, i, d, h, e => by simp at e
  | d0 :: ds, _, 0, d, h, e => by
    cases h with
    | cons q r =>
      have : d0 = d := Option.some.inj e
      subst this
      exact ⟨_, rfl, q⟩
  | d0 :: ds, _, i + 1, d, h, e => by
    cases h with
    | cons q r =>
      obtain ⟨v, h1, h2⟩ := TpAll.at (i := i) r e
      exact ⟨v, h1, h2⟩
theorem TpAll.at' {H : Hp} {ds : List PyData} {vs : List V} {i : Nat} {v : V} (h : TpAll H vs ds) (e : vs[i]? = some v) : ∃ d, ds[i]? = some d ∧ Tp H v d := by
  have hl := h.length
  have hi := (List.getElem?_eq_some_iff.mp e).1
  obtain ⟨v', h1, h2⟩ := h.at (List.getElem?_eq_getElem (show i < ds.length by omega))
  rw [e] at h1
  cases h1
  exact ⟨_, List.getElem?_eq_getElem (by omega), h2⟩
theorem TpAll.append {H : Hp} : ∀ {ds es : List PyData} {vs ws : List V}, TpAll H vs ds → TpAll H ws es → TpAll H (vs ++ ws) (ds ++ es)
  | [], _, _, _, h, g => by cases h; exact g
  | d :: ds, _, _, _, h, g => by
    cases h with
    | cons q r => exact .cons q (TpAll.append r g)
theorem TpAll.take {H : Hp} : ∀ (n : Nat) {ds : List PyData} {vs : List V}, TpAll H vs ds → TpAll H (vs.take n) (ds.take n)
  | 0, _, _, _ => .nil
  | n + 1, [], _, h => by cases h; exact .nil
  | n + 1, d :: ds, _, h => by
    cases h with
    | cons q r => exact .cons q (TpAll.take n r)
theorem TpAll.drop {H : Hp} : ∀ (n : Nat) {ds : List PyData} {vs : List V}, TpAll H vs ds → TpAll H (vs.drop n) (ds.drop n)
  | 0, _, _, h => h
  | n + 1, [], _, h => by cases h; exact .nil
  | n + 1, d :: ds, _, h => by
    cases h with
    | cons q r => exact TpAll.drop n r
theorem TpAll.snoc {H : Hp} {ds : List PyData} {vs : List V} {d : PyData} {v : V} (h : TpAll H vs ds) (q : Tp H v d) : TpAll H (vs ++ [v]) (ds ++ [d]) := h.append (.cons q .nil)
theorem TpAll.rep {H : Hp} {d : PyData} {v : V} (q : Tp H v d) : ∀ n : Nat, TpAll H (List.replicate n v) (List.replicate n d)
  | 0 => .nil
  | n + 1 => .cons q (TpAll.rep q n)
/-- a tuple opened -/
theorem Tp.open {H : Hp} {v : V} {ds : List PyData} (h : Tp H v (.tuple ds)) : ∃ a xs, v = .ref a ∧ H a = some (.tup xs) ∧ TpAll H xs ds ∧ xs.length = ds.length := by
  cases h with
  | tup e q => exact ⟨_, _, rfl, e, q, q.length⟩
/-- an item of a tuple, as a subscript asks -/
theorem Tp.item {H : Hp} {v : V} {ds : List PyData} {i : Nat} {d : PyData} (h : Tp H v (.tuple ds)) (e : ds[i]? = some d) : ∃ a xs x, v = .ref a ∧ H a = some (.tup xs) ∧ atI xs (i : Int) = some x ∧ Tp H x d := by
  obtain ⟨a, xs, rfl, ha, hx, _⟩ := h.open
  obtain ⟨x, h1, h2⟩ := hx.at e
  exact ⟨a, xs, x, rfl, ha, atI_nat h1, h2⟩
/-- all but the object at a stays -/
def St1 (a : Addr) (H H' : Hp) : Prop := ∀ b o, H b = some o → b ≠ a → H' b = some o
theorem St1.refl (a : Addr) (H : Hp) : St1 a H H := fun _ _ h _ => h
theorem St1.of {a : Addr} {H H' : Hp} (h : Same H H') : St1 a H H' := fun b o e _ => h b o e
theorem St1.trans {a : Addr} {H H1 H2 : Hp} (h : St1 a H H1) (g : St1 a H1 H2) : St1 a H H2 := fun b o e n => g b o (h b o e n) n
theorem St1.upd {a : Addr} {H H1 : Hp} {o : HO} (h : St1 a H H1) : St1 a H (upd H1 a o) := fun b u e n => by rw [upd_ne n]; exact h b u e n
theorem same_new {H : Hp} {p : Addr} (h : H p = none) (o : HO) : Same H (upd H p o) := fun b u q => by rw [upd_ne (ne_of_none q h)]; exact q
theorem St1.new {a p : Addr} {H H1 : Hp} (h : St1 a H H1) (n : H1 p = none) (o : HO) : St1 a H (L2.upd H1 p o) := h.trans (St1.of (same_new n o))
/-- written to an address that was free ahead: all that stood stays -/
theorem Same.writ {H H1 : Hp} {p : Addr} (h : Same H H1) (n : H p = none) (o : HO) : Same H (upd H1 p o) := fun b u q => by rw [upd_ne (ne_of_none q n)]; exact h b u q
theorem St1.writ {a : Addr} {H H1 : Hp} {p : Addr} (h : St1 a H H1) (n : H p = none) (o : HO) : St1 a H (L2.upd H1 p o) := fun b u q m => by rw [upd_ne (ne_of_none q n)]; exact h b u q m
theorem St1.ts {a : Addr} {H H' : Hp} (h : St1 a H H') {o : HO} (e : H a = some o) (no : ∀ xs, o ≠ .tup xs) : TSt H H' := fun b xs q => h b _ q fun z => by
  subst z
  rw [e] at q
  exact no xs (Option.some.inj q)
/-- the draws: a dict of a row of 400 numbers and a place -/
def Dr (H : Hp) (d r : Addr) : Prop := ∃ (row : List Int) (n : Int), H d = some (.dK [(.inr "row", .ref r), (.inr "at", .int n)]) ∧ 0 ≤ n ∧ H r = some (.lst (row.map V.int)) ∧ row.length = 400 ∧ ∀ x ∈ row, 0 ≤ x
theorem Dr.no {H : Hp} {d r : Addr} (h : Dr H d r) : ∃ o, H d = some o ∧ ∀ xs, o ≠ .tup xs := by
  obtain ⟨row, n, e, _⟩ := h
  exact ⟨_, e, fun xs q => by cases q⟩
theorem Dr.freene {H : Hp} {d r : Addr} (h : Dr H d r) {p : Addr} (n : H p = none) : p ≠ d := by
  obtain ⟨o, e, _⟩ := h.no
  exact (ne_of_none e n).symm
theorem Dr.freene2 {H : Hp} {d r : Addr} (h : Dr H d r) {p : Addr} (n : H p = none) : p ≠ r := by
  obtain ⟨row, _, _, _, e, _⟩ := h
  exact (ne_of_none e n).symm
theorem Dr.same {H H' : Hp} {d r : Addr} (h : Dr H d r) (s : Same H H') : Dr H' d r := by
  obtain ⟨row, n, e, h0, er, hl, hp⟩ := h
  exact ⟨row, n, s _ _ e, h0, s _ _ er, hl, hp⟩
theorem Dr.wr {H : Hp} {d r l : Addr} {o : HO} (h : Dr H d r) (h1 : l ≠ d) (h2 : l ≠ r) : Dr (upd H l o) d r := by
  obtain ⟨row, n, e, h0, er, hl, hp⟩ := h
  exact ⟨row, n, by rw [upd_ne h1.symm]; exact e, h0, by rw [upd_ne h2.symm]; exact er, hl, hp⟩
theorem Dr.ts {H H' : Hp} {d r : Addr} (h : Dr H d r) (s : St1 d H H') : TSt H H' := by
  obtain ⟨o, e, no⟩ := h.no
  exact s.ts e no
/-! ### shaped data -/
theorem kdD_lay : ∀ k : Kd, (kdD k).canLay0 = true
  | .int => by decide +kernel
  | .bool => by decide +kernel
  | .box k => by
    have h := kdD_lay k
    have h2 : PyData.strOk "box" = true := by decide +kernel
    simp [kdD, PyData.canLay0, PyData.canLayAll0, h, h2]
  | .vec k => by
    have h := kdD_lay k
    have h2 : PyData.strOk "vec" = true := by decide +kernel
    simp [kdD, PyData.canLay0, PyData.canLayAll0, h, h2]
  | .rcd n => by
    have h2 : PyData.strOk "record" = true := by decide +kernel
    simp [kdD, PyData.canLay0, PyData.canLayAll0, h2]
  | .vrt n => by
    have h2 : PyData.strOk "variant" = true := by decide +kernel
    simp [kdD, PyData.canLay0, PyData.canLayAll0, h2]
  | .rf k => by
    have h := kdD_lay k
    have h2 : PyData.strOk "ref" = true := by decide +kernel
    simp [kdD, PyData.canLay0, PyData.canLayAll0, h, h2]
  | .mt k => by
    have h := kdD_lay k
    have h2 : PyData.strOk "mut" = true := by decide +kernel
    simp [kdD, PyData.canLay0, PyData.canLayAll0, h, h2]
theorem kdD_depth : ∀ k : Kd, (kdD k).depth ≤ k.dep
  | .int | .bool | .rcd _ | .vrt _ => by simp [kdD, PyData.depth, PyData.depthAll, Kd.dep]
  | .box k | .vec k | .rf k | .mt k => by
    have h := kdD_depth k
    simp [kdD, PyData.depth, PyData.depthAll, Kd.dep]
    omega
theorem kds_lay : ∀ ks : List Kd, PyData.canLayAll0 (ks.map kdD) = true
  | [] => rfl
  | k :: ks => by
    have h1 := kdD_lay k
    have h2 := kds_lay ks
    simp [PyData.canLayAll0, h1, h2]
theorem kds_depth : ∀ ks : List Kd, (∀ k ∈ ks, k.dep ≤ 4) → PyData.depthAll (ks.map kdD) ≤ 4
  | [], _ => by simp [PyData.depthAll]
  | k :: ks, h => by
    have h1 := kdD_depth k
    have h3 := h k (by simp)
    have h2 := kds_depth ks fun z hz => h z (by simp [hz])
    simp only [List.map_cons, PyData.depthAll]
    omega
theorem shaped_kd {k : Kd} (h : k.dep ≤ 4) : SeqAt.shaped (kdD k) = true := by
  have h2 := kdD_depth k
  show ((kdD k).canLay0 && decide ((kdD k).depth ≤ 64)) = true
  rw [kdD_lay, Bool.true_and]
  exact decide_eq_true (by omega)
theorem shaped_kds {ks : List Kd} (h : ∀ k ∈ ks, k.dep ≤ 4) : SeqAt.shaped (.list (ks.map kdD)) = true := by
  have h2 := kds_depth ks h
  show (PyData.canLayAll0 (ks.map kdD) && decide (PyData.depth (.list (ks.map kdD)) ≤ 64)) = true
  rw [kds_lay, Bool.true_and]
  refine decide_eq_true ?_
  simp only [PyData.depth]
  omega
def wrd : Nat → Str
  | 0 => "int" | 1 => "bool" | 2 => "box" | 3 => "vec" | 4 => "record" | 5 => "variant" | 6 => "ref" | _ => "mut"
theorem wrd_inj : ∀ i, i < 8 → ∀ j, j < 8 → wrd i = wrd j → i = j := by decide +kernel
def Kd.ix : Kd → Nat
  | .int => 0 | .bool => 1 | .box _ => 2 | .vec _ => 3 | .rcd _ => 4 | .vrt _ => 5 | .rf _ => 6 | .mt _ => 7
theorem Kd.ix_lt (k : Kd) : k.ix < 8 := by cases k <;> simp [Kd.ix]
theorem Kd.hd_ix (k : Kd) : k.hd = wrd k.ix := by cases k <;> rfl
theorem ix_of {a b : Kd} (h : a.hd = b.hd) : a.ix = b.ix := wrd_inj _ a.ix_lt _ b.ix_lt (by rw [← a.hd_ix, ← b.hd_ix]; exact h)
def Kd.tlD : Kd → List PyData
  | .int => [] | .bool => []
  | .box k => [kdD k] | .vec k => [kdD k] | .rf k => [kdD k] | .mt k => [kdD k]
  | .rcd n => [.int n] | .vrt n => [.int n]
theorem kdD_eq (k : Kd) : kdD k = .tuple (.str k.hd :: k.tlD) := by cases k <;> rfl
theorem eqv_hd (a b : Kd) : PyData.eqv (kdD a) (kdD b) = (decide (a.hd = b.hd) && PyData.eqvAll a.tlD b.tlD) := by
  rw [kdD_eq, kdD_eq]
  simp only [PyData.eqv, PyData.eqvAll]
  rfl
theorem eqv_ne {a b : Kd} (h : a.ix ≠ b.ix) : PyData.eqv (kdD a) (kdD b) = decide (a = b) := by
  rw [eqv_hd, decide_eq_false (fun q => h (ix_of q)), decide_eq_false (fun q => h (by rw [q])), Bool.false_and]
theorem eqv_one {a b : Kd} (k j : Kd) (ha : a.tlD = [kdD k]) (hb : b.tlD = [kdD j]) (e : a.hd = b.hd) (he : PyData.eqv (kdD k) (kdD j) = decide (k = j)) (hi : a = b ↔ k = j) : PyData.eqv (kdD a) (kdD b) = decide (a = b) := by
  rw [eqv_hd, decide_eq_true e, ha, hb, Bool.true_and]
  simp only [PyData.eqvAll, he, Bool.and_true, decide_eq_decide]
  exact hi.symm
theorem eqv_int {a b : Kd} (k j : Nat) (ha : a.tlD = [.int k]) (hb : b.tlD = [.int j]) (e : a.hd = b.hd) (hi : a = b ↔ k = j) : PyData.eqv (kdD a) (kdD b) = decide (a = b) := by
  rw [eqv_hd, decide_eq_true e, ha, hb, Bool.true_and]
  have q : ((k : Int) == (j : Int)) = decide (k = j) := by
    by_cases h : k = j
    · subst h; simp
    · rw [decide_eq_false h]; exact beq_eq_false_iff_ne.mpr (by omega)
  simp only [PyData.eqvAll, PyData.eqv, q, Bool.and_true, decide_eq_decide]
  exact hi.symm
theorem kd_eqv : ∀ a b : Kd, PyData.eqv (kdD a) (kdD b) = decide (a = b)
  | .int, .int => by rw [eqv_hd]; rfl
  | .bool, .bool => by rw [eqv_hd]; rfl
  | .box k, .box j => eqv_one k j rfl rfl rfl (kd_eqv k j) (by simp)
  | .vec k, .vec j => eqv_one k j rfl rfl rfl (kd_eqv k j) (by simp)
  | .rf k, .rf j => eqv_one k j rfl rfl rfl (kd_eqv k j) (by simp)
  | .mt k, .mt j => eqv_one k j rfl rfl rfl (kd_eqv k j) (by simp)
  | .rcd k, .rcd j => eqv_int k j rfl rfl rfl (by simp)
  | .vrt k, .vrt j => eqv_int k j rfl rfl rfl (by simp)
  | .int, .bool | .int, .box _ | .int, .vec _ | .int, .rcd _ | .int, .vrt _ | .int, .rf _ | .int, .mt _ => eqv_ne (by simp [Kd.ix])
  | .bool, .int | .bool, .box _ | .bool, .vec _ | .bool, .rcd _ | .bool, .vrt _ | .bool, .rf _ | .bool, .mt _ => eqv_ne (by simp [Kd.ix])
  | .box _, .int | .box _, .bool | .box _, .vec _ | .box _, .rcd _ | .box _, .vrt _ | .box _, .rf _ | .box _, .mt _ => eqv_ne (by simp [Kd.ix])
  | .vec _, .int | .vec _, .bool | .vec _, .box _ | .vec _, .rcd _ | .vec _, .vrt _ | .vec _, .rf _ | .vec _, .mt _ => eqv_ne (by simp [Kd.ix])
  | .rcd _, .int | .rcd _, .bool | .rcd _, .box _ | .rcd _, .vec _ | .rcd _, .vrt _ | .rcd _, .rf _ | .rcd _, .mt _ => eqv_ne (by simp [Kd.ix])
  | .vrt _, .int | .vrt _, .bool | .vrt _, .box _ | .vrt _, .vec _ | .vrt _, .rcd _ | .vrt _, .rf _ | .vrt _, .mt _ => eqv_ne (by simp [Kd.ix])
  | .rf _, .int | .rf _, .bool | .rf _, .box _ | .rf _, .vec _ | .rf _, .rcd _ | .rf _, .vrt _ | .rf _, .mt _ => eqv_ne (by simp [Kd.ix])
  | .mt _, .int | .mt _, .bool | .mt _, .box _ | .mt _, .vec _ | .mt _, .rcd _ | .mt _, .vrt _ | .mt _, .rf _ => eqv_ne (by simp [Kd.ix])
theorem any_kd (k : Kd) : ∀ ks : List Kd, ((ks.map kdD).any fun z => PyData.eqv z (kdD k)) = decide (k ∈ ks)
  | [] => by simp
  | j :: ks => by
    rw [List.map_cons, List.any_cons, any_kd k ks, kd_eqv]
    by_cases h : j = k
    · subst h; simp
    · have h2 : ¬ k = j := fun e => h e.symm
      simp [h, h2]
theorem eqv_nil : ∀ ds : List PyData, PyData.eqv (.list ds) (.list []) = ds.isEmpty
  | [] => by simp [PyData.eqv, PyData.eqvAll]
  | _ :: _ => by simp [PyData.eqv, PyData.eqvAll]
theorem eqv_unit : ∀ ds : List PyData, PyData.eqv (.tuple ds) (.tuple []) = ds.isEmpty
  | [] => by simp [PyData.eqv, PyData.eqvAll]
  | _ :: _ => by simp [PyData.eqv, PyData.eqvAll]
theorem shaped_nil : SeqAt.shaped (.list []) = true := by decide +kernel
theorem shaped_unit : SeqAt.shaped (.tuple []) = true := by decide +kernel
end My
set_option maxRecDepth 100000
set_option maxHeartbeats 4000000
namespace My
open PySem PySem.Spec PyProof.Rows L2
theorem tuple_mul1 (l : Addr) (items : Array Value) (n : Nat) (dd : Option Addr) (sl : Array (Option Value)) (u : Tok) :
    Meets (Builtin.«tuple.__mul__» ⟨[.ref l, .int 1 u], []⟩) (fun _ R s => s.heap.get? l = some { cls := .type "tuple", dict := dd, data := .seq items n, slots := sl } ∧ R (.ok (.ret (Value.ref l))) s) :=
  .of_wp fun prog w A R s h => by
    obtain ⟨hp, g, d, tk, os⟩ := s
    obtain ⟨hl, h⟩ := h
    have f1 := AutoSeq1.idx_int
    have c1 : (items.isEmpty || (1 : Int) == 1) = true := by simp
    wp_walk using wpAny_loadPart' hl
    exact ⟨_, rfl, h⟩
theorem tuple_mul0 (l : Addr) (items : Array Value) (n : Nat) (dd : Option Addr) (sl : Array (Option Value)) (u : Tok) (c1 : (items.isEmpty || (0 : Int) == 1) = false) :
    Meets (Builtin.«tuple.__mul__» ⟨[.ref l, .int 0 u], []⟩) (fun _ R s => s.heap.get? l = some { cls := .type "tuple", dict := dd, data := .seq items n, slots := sl } ∧ R (.ok (.ret (Value.ref s.heap.objs.size))) { s with heap := s.heap.push { cls := Value.type "tuple", data := Data.seq #[] }, toks := s.toks }) :=
  .of_wp fun prog w A R s h => by
    obtain ⟨hp, g, d, tk, os⟩ := s
    obtain ⟨hl, h⟩ := h
    have f1 := AutoSeq1.idx_int
    wp_walk using wpAny_loadPart' hl
    refine wpAny_ite_false (decide_eq_false (by rw [c1]; exact Bool.false_ne_true)) ?_
    wp_walk using wpAny_loadPart' hl
    exact ⟨_, rfl, h⟩
theorem gdAll_lay {w n : Nat} (ih : ∀ d, gd w n d → d.canLay0 = true ∧ d.depth ≤ n) : ∀ ds : List PyData, (∀ d ∈ ds, gd w n d) → PyData.canLayAll0 ds = true ∧ PyData.depthAll ds ≤ n
  | [], _ => by simp [PyData.canLayAll0, PyData.depthAll]
  | d :: r, h => by
    have h1 := ih d (h d (by simp))
    have h2 := gdAll_lay ih r fun z hz => h z (by simp [hz])
    simp only [PyData.canLayAll0, PyData.depthAll, h1.1, h2.1, Bool.and_self, true_and]
    omega
theorem gd_lay {w : Nat} : ∀ (n : Nat) (d : PyData), gd w n d → d.canLay0 = true ∧ d.depth ≤ n
  | n, .none, _ => by simp [PyData.canLay0, PyData.depth]
  | n, .bool _, _ => by simp [PyData.canLay0, PyData.depth]
  | n, .int _, _ => by simp [PyData.canLay0, PyData.depth]
  | n, .str s, h => by
    have h' : PyData.strOk s = true := by cases n <;> exact h
    simp [PyData.canLay0, PyData.depth, h']
  | 0, .tuple _, h => h.elim
  | n + 1, .tuple ds, h => by
    have q := gdAll_lay (gd_lay n) ds h.2
    simp only [PyData.canLay0, PyData.depth, q.1, true_and]
    omega
  | 0, .list _, h => h.elim
  | _ + 1, .list _, h => h.elim
  | 0, .dict _, h => h.elim
  | _ + 1, .dict _, h => h.elim
theorem gd_shaped {w n : Nat} {d : PyData} (h : gd w n d) (hn : n ≤ 64) : SeqAt.shaped d = true := by
  have q := gd_lay n d h
  show (d.canLay0 && decide (d.depth ≤ 64)) = true
  rw [q.1, Bool.true_and]
  exact decide_eq_true (by omega)
def rRepK : R2 := fun x y H Q => ∃ d0 n, Tp H x (.tuple [d0]) ∧ y = .int ((n : Nat) : Int) ∧ n ≤ 1000 ∧ ∀ z H', Same H H' → Tp H' z (.tuple (List.replicate n d0)) → Q z H'
theorem op_repK {X : Cx} : OpR X (binaryOp .Mult) rRepK := by
  intro pins s σ H x y v u Q I rx ry h
  obtain ⟨d0, n, hx, rfl, hn, q⟩ := h
  obtain ⟨l, xs, rfl, hl, hxs, hlen⟩ := id hx.open
  by_cases h2 : 2 ≤ n
  · obtain ⟨x0, rfl⟩ : ∃ x0, xs = [x0] := by
      cases hxs with
      | cons h1 h2 => cases h2; exact ⟨_, rfl⟩
    refine op_repT pins s σ H _ _ v u Q I rx ry ⟨l, _, _, rfl, rfl, SqT.of hl, by simp, by omega, by omega, by simp, fun p np => ?_⟩
    refine q _ _ (same_new np _) (.tup upd_same ?_)
    have t : Tp (upd H p (.tup (List.replicate ((n : Nat) : Int).toNat [x0]).flatten)) x0 d0 := by
      cases hxs with
      | cons h1 h2 => exact Tp.mono (TSt.of (same_new np _)) _ _ h1
    have e : (List.replicate ((n : Nat) : Int).toNat [x0]).flatten = List.replicate n x0 := by
      rw [Int.toNat_natCast]
      simp
    rw [e] at t ⊢
    exact TpAll.rep t n
  · cases rx
    obtain ⟨t, rfl⟩ := ry
    obtain ⟨its, r, ⟨⟨cls, dd, data, sl⟩, ho, hc, n0, hd⟩, hs⟩ := I.tuple (SqT.of hl)
    simp only at hc hd
    subst hc hd
    have hle : its.length = xs.length := r.length.symm
    have hi : its.toArray.isEmpty = false := by
      cases its with
      | nil => rw [hlen] at hle; simp at hle
      | cons a b => rfl
    by_cases h1 : n = 1
    · subst h1
      refine wpAny_binaryOp_repeat_ref (T := "tuple") (U := "int") (by decide) ⟨_, ho, rfl⟩ (fun s' => typeIs_int s' _ t) noFill_tuple_mul F.fills_int_mul F.slot_int_rmul repeat_tuple F.slot_int_index.lookup
        (call_meets F.slot_int_rmul (typeIs_int s _ t) F.entry_int_rmul (F.args_int_rmul_2 _ _) (int_rmul_tuple _ t l its.toArray n0 dd sl)
          ⟨ho, rfl, ⟨_, ho, rfl⟩, call_meets F.slot_tuple_mul ⟨_, ho, rfl⟩ F.entry_tuple_mul (F.args_tuple_mul_2 _ _) (tuple_mul1 l its.toArray n0 dd sl t) ⟨ho, ?_⟩⟩)
      exact ⟨.ref l, H, I, rfl, q _ H (Same.refl H) hx⟩
    · obtain rfl : n = 0 := by omega
      have c1 : (its.toArray.isEmpty || (0 : Int) == 1) = false := by rw [hi]; rfl
      refine wpAny_binaryOp_repeat_ref (T := "tuple") (U := "int") (by decide) ⟨_, ho, rfl⟩ (fun s' => typeIs_int s' _ t) noFill_tuple_mul F.fills_int_mul F.slot_int_rmul repeat_tuple F.slot_int_index.lookup
        (call_meets F.slot_int_rmul (typeIs_int s _ t) F.entry_int_rmul (F.args_int_rmul_2 _ _) (int_rmul_tuple _ t l its.toArray n0 dd sl)
          ⟨ho, rfl, ⟨_, ho, rfl⟩, call_meets F.slot_tuple_mul ⟨_, ho, rfl⟩ F.entry_tuple_mul (F.args_tuple_mul_2 _ _) (tuple_mul0 l its.toArray n0 dd sl t c1) ⟨ho, ?_⟩⟩)
      have hf := I.hok.fresh (Nat.le_refl s.heap.objs.size)
      refine ⟨.ref s.heap.objs.size, _, I.laid (t' := s.toks) (o := .tup []) (fun b ob q => Heap.get?_push_of_some _ q) (Nat.le_refl _) ?_, rfl, q _ _ (same_new hf _) (.tup upd_same .nil)⟩
      exact ⟨Nat.zero_le _, [], .nil, IsTup.new _ _⟩
end My
set_option maxRecDepth 100000
set_option maxHeartbeats 4000000
namespace My
open PySem L2
/-- what the walk asks of the names of the top -/
structure Nm (K : PySem.W.Frag) (w : World) (mg : Str → Option Value) : Prop where
  len : mg "len" = none
  isi : mg "isinstance" = none
  tup : mg "tuple" = none
  int : mg "int" = none
  bool : mg "bool" = none
  str : mg "str" = none
  zip : mg "zip" = none
  all : mg "all" = none
  sum : mg "sum" = none
  max : mg "max" = none
  abs : mg "abs" = none
  range : mg "range" = none
  word : ∃ t, mg "WORD" = some (.int 4294967296 t)
  sizes : ∃ d es n, mg "SIZES" = some (.ref d) ∧ KDict K w d es n ∧ (∀ z : Str, z = "int" ∨ z = "bool" ∨ z = "box" ∨ z = "ref" ∨ z = "mut" → ∃ t, PySem.W.nsIn K d z = some (some (.int 1 t))) ∧ (∃ t, PySem.W.nsIn K d "vec" = some (some (.int 3 t))) ∧ PySem.W.nsIn K d "record" = some none ∧ PySem.W.nsIn K d "variant" = some none
/-- a def of the top -/
structure Df (K : PySem.W.Frag) (mg : Str → Option Value) (x : Str) (st : Stmt) (ps : List Str) (f : Addr) (fd : FuncData) : Prop where
  F : Fun K x x st f fd
  b : Binds K fd ps []
  m : mg x = some (.ref f)
theorem cl {X : Cx} {x : Str} {st : Stmt} {ps : List Str} {f : Addr} {fd : FuncData} {k : Nat} {sp : Sp} {e : Expr} {es : List Expr} {t : TA} {pos p : Pos} (D : Df X.K X.mg x st ps f fd) (G : FnOk X.prog X.w X.K X.mg X.base CX0 k f fd ps sp) (hr : Room k X.A)
    (ha : PA X (e :: es) t) (hg : Gl X x := by rfl) (hdb : (x == ("__debug__" : Str)) = false := by decide) (he : starEach (e :: es) X.env = (false, eval e X.env) :: starEach es X.env := by rfl) (hpl : (backTo pos (starEach es X.env)).any (·.1) = false := by rfl) :
    PE X (.Call (.Name x p) (e :: es) [] pos) (tCall sp [] E0 t) :=
  pe_call G hr hg D.m D.F.kp D.b .nil pass0 ha hdb he hpl
/-- the promise of a smaller index, whichever -/
theorem FnOk.below {P : Program} {w : World} {K : PySem.W.Frag} {mg : Str → Option Value} {base : Heap} {CX : CXT} {k : Nat} {f : Addr} {fd : FuncData} {ps : List Str} {sp : Nat → Sp} {n : Nat}
    (h : ∀ m, m < n → FnOk P w K mg base CX k f fd ps (sp m)) : FnOk P w K mg base CX k f fd ps (fun vs H Q E => ∃ m, m < n ∧ sp m vs H Q E) :=
  ⟨fun vs H Q E ⟨m, hm, q⟩ => (h m hm).len vs H Q E q, fun A outer s H args us vs Q E hr he hb hv ⟨m, hm, q⟩ => (h m hm).run A outer s H args us vs Q E hr he hb hv q⟩
/-! ### types -/
def tyn : PyData → String
  | .none => "NoneType" | .bool _ => "bool" | .int _ => "int" | .str _ => "str" | .tuple _ => "tuple" | .list _ => "list" | .dict _ => "dict"
theorem Tp.ty {K : PySem.W.Frag} {H : Hp} {v : V} {d : PyData} (h : Tp H v d) : TyX K H v (.type (tyn d)) := by
  cases h with
  | non => exact .base .non
  | bl b => exact .base (.bl b)
  | int i => exact .base (.int i)
  | str x => exact .base (.str x)
  | tup e _ => exact .base (.tup e)
def isIn : PyData → Bool
  | .bool _ => true | .int _ => true | _ => false
def isSt : PyData → Bool
  | .str _ => true | _ => false
def isTu : PyData → Bool
  | .tuple _ => true | _ => false
theorem kit_int {K : PySem.W.Frag} (d : PyData) : PySem.W.kitOne K (.type (tyn d)) (.type "int") = some (isIn d) := by
  cases d <;> exact kit_ty (by simp only [tyn, isIn]; decide +kernel)
theorem kit_bool {K : PySem.W.Frag} (d : PyData) : PySem.W.kitOne K (.type (tyn d)) (.type "bool") = some (isBl d) := by
  cases d <;> exact kit_ty (by simp only [tyn, isBl]; decide +kernel)
theorem kit_str {K : PySem.W.Frag} (d : PyData) : PySem.W.kitOne K (.type (tyn d)) (.type "str") = some (isSt d) := by
  cases d <;> exact kit_ty (by simp only [tyn, isSt]; decide +kernel)
theorem kit_tup {K : PySem.W.Frag} (d : PyData) : PySem.W.kitOne K (.type (tyn d)) (.type "tuple") = some (isTu d) := by
  cases d <;> exact kit_ty (by simp only [tyn, isTu]; decide +kernel)
/-! ### rules over data of tuples -/
section
variable {X : Cx}
def rItem : R2 := fun x y H Q => ∃ ds i d, Tp H x (.tuple ds) ∧ y = .int ((i : Nat) : Int) ∧ ds[i]? = some d ∧ ∀ z, Tp H z d → Q z H
theorem ix_item : IxR X rItem := by
  intro value slice pins s σ H x y v u Q I rx ry h hs
  obtain ⟨ds, i, d, hx, rfl, hd, q⟩ := h
  obtain ⟨a, xs, z, rfl, ha, hz, ht⟩ := hx.item hd
  exact ix_tup value slice pins s σ H _ _ v u Q I rx ry ⟨a, xs, _, z, rfl, rfl, SqT.of ha, hz, q z ht⟩ hs
def rHead : R2 := fun x y H Q => y = .int 0 ∧ ∃ k, Tp H x (kdD k) ∧ Q (.str k.hd) H
theorem ix_head : IxR X rHead := by
  intro value slice pins s σ H x y v u Q I rx ry h hs
  obtain ⟨rfl, k, hx, q⟩ := h
  rw [kdD_eq] at hx
  refine ix_item value slice pins s σ H x _ v u Q I rx ry ⟨_, 0, _, hx, rfl, rfl, fun z hz => ?_⟩ hs
  cases hz
  exact q
def rEqS : R2 := fun x y H Q => ∃ a b, x = .str a ∧ y = .str b ∧ Q (.bl (decide (a = b))) H
theorem op_eqS : OpR X (compareOp .Eq) rEqS := by
  intro pins s σ H x y v u Q I rx ry h
  obtain ⟨a, b, rfl, rfl, q⟩ := h
  refine op_eq pins s σ H _ _ v u Q I rx ry ⟨rfl, ?_⟩
  have e : decide (V.str a = V.str b) = decide (a = b) := decide_eq_decide.mpr ⟨fun h => V.str.inj h, fun h => by rw [h]⟩
  rw [e]
  exact q
def rNeS : R2 := fun x y H Q => ∃ a b, x = .str a ∧ y = .str b ∧ Q (.bl (!decide (a = b))) H
theorem op_neS : OpR X (compareOp .NotEq) rNeS := by
  intro pins s σ H x y v u Q I rx ry h
  obtain ⟨a, b, rfl, rfl, q⟩ := h
  refine op_ne pins s σ H _ _ v u Q I rx ry ⟨rfl, ?_⟩
  have e : decide (V.str a = V.str b) = decide (a = b) := decide_eq_decide.mpr ⟨fun h => V.str.inj h, fun h => by rw [h]⟩
  rw [e]
  exact q
def rEqI : R2 := fun x y H Q => ∃ a b, x = .int a ∧ y = .int b ∧ Q (.bl (decide (a = b))) H
theorem op_eqI : OpR X (compareOp .Eq) rEqI := by
  intro pins s σ H x y v u Q I rx ry h
  obtain ⟨a, b, rfl, rfl, q⟩ := h
  refine op_eq pins s σ H _ _ v u Q I rx ry ⟨rfl, ?_⟩
  have e : decide (V.int a = V.int b) = decide (a = b) := decide_eq_decide.mpr ⟨fun h => V.int.inj h, fun h => by rw [h]⟩
  rw [e]
  exact q
def rNeI : R2 := fun x y H Q => ∃ a b, x = .int a ∧ y = .int b ∧ Q (.bl (!decide (a = b))) H
theorem op_neI : OpR X (compareOp .NotEq) rNeI := by
  intro pins s σ H x y v u Q I rx ry h
  obtain ⟨a, b, rfl, rfl, q⟩ := h
  refine op_ne pins s σ H _ _ v u Q I rx ry ⟨rfl, ?_⟩
  have e : decide (V.int a = V.int b) = decide (a = b) := decide_eq_decide.mpr ⟨fun h => V.int.inj h, fun h => by rw [h]⟩
  rw [e]
  exact q
def rIs (T : String) (f : PyData → Bool) : List V → Hp → VK → Prop := fun xs H Q => ∃ v d, xs = [v, .ty T] ∧ Tp H v d ∧ Q (.bl (f d)) H
theorem ci_of {T : String} {f : PyData → Bool} (h : ∀ d, PySem.W.kitOne X.K (.type (tyn d)) (.type T) = some (f d)) : CallR X (.builtin "isinstance") (rIs T f) := by
  intro pins s σ H xs us Q I r q
  obtain ⟨v, d, rfl, hv, q⟩ := q
  exact call_isi pins s σ H _ us Q I r ⟨v, .ty T, _, _, f d, rfl, .ty T, hv.ty, h d, q⟩
theorem ci_int : CallR X (.builtin "isinstance") (rIs "int" isIn) := ci_of kit_int
theorem ci_bool : CallR X (.builtin "isinstance") (rIs "bool" isBl) := ci_of kit_bool
theorem ci_str : CallR X (.builtin "isinstance") (rIs "str" isSt) := ci_of kit_str
theorem ci_tup : CallR X (.builtin "isinstance") (rIs "tuple" isTu) := ci_of kit_tup
def rLen : List V → Hp → VK → Prop := fun xs H Q => ∃ v ds, xs = [v] ∧ Tp H v (.tuple ds) ∧ Q (.int ((ds.length : Nat) : Int)) H
theorem cl_len : CallR X (.builtin "len") rLen := by
  intro pins s σ H xs us Q I r q
  obtain ⟨v, ds, rfl, hv, q⟩ := q
  obtain ⟨a, ys, rfl, ha, _, hl⟩ := hv.open
  refine call_len_seq pins s σ H _ us Q I r ⟨a, ys, rfl, .inr (SqT.of ha), ?_⟩
  rw [hl]
  exact q
end
section
variable {X : Cx} {e : Expr} {te : TE} {p p2 pos : Pos}
theorem pe_isInt (N : Nm X.K X.w X.mg) (he : PE X e te) (hg : Gl X "isinstance" := by rfl) (hg2 : Gl X "int" := by rfl) (na : starEach [e, .Name "int" p2] X.env = (false, eval e X.env) :: starEach [.Name "int" p2] X.env := by rfl) (nb : starEach [.Name "int" p2] X.env = (false, eval (.Name "int" p2) X.env) :: starEach [] X.env := by rfl)
    (np : (backTo pos (starEach [.Name "int" p2] X.env)).any (·.1) = false := by rfl) : PE X (.Call (.Name "isinstance" p) [e, .Name "int" p2] [] pos) (tCB (rIs "int" isIn) (tCons te (tCons (tC (.ty "int")) tNil))) :=
  pe_callB ci_int hg N.isi PyProof.Rows.boot_isinstance (pa_cons he (pa_cons (pe_bltn (v := .ty "int") hg2 N.int PyProof.Rows.boot_int rfl) pa_nil nb) na) (by decide) (by decide) na np
theorem pe_isBool (N : Nm X.K X.w X.mg) (he : PE X e te) (hg : Gl X "isinstance" := by rfl) (hg2 : Gl X "bool" := by rfl) (na : starEach [e, .Name "bool" p2] X.env = (false, eval e X.env) :: starEach [.Name "bool" p2] X.env := by rfl) (nb : starEach [.Name "bool" p2] X.env = (false, eval (.Name "bool" p2) X.env) :: starEach [] X.env := by rfl)
    (np : (backTo pos (starEach [.Name "bool" p2] X.env)).any (·.1) = false := by rfl) : PE X (.Call (.Name "isinstance" p) [e, .Name "bool" p2] [] pos) (tCB (rIs "bool" isBl) (tCons te (tCons (tC (.ty "bool")) tNil))) :=
  pe_callB ci_bool hg N.isi PyProof.Rows.boot_isinstance (pa_cons he (pa_cons (pe_bltn (v := .ty "bool") hg2 N.bool PyProof.Rows.boot_bool rfl) pa_nil nb) na) (by decide) (by decide) na np
theorem pe_isStr (N : Nm X.K X.w X.mg) (he : PE X e te) (hg : Gl X "isinstance" := by rfl) (hg2 : Gl X "str" := by rfl) (na : starEach [e, .Name "str" p2] X.env = (false, eval e X.env) :: starEach [.Name "str" p2] X.env := by rfl) (nb : starEach [.Name "str" p2] X.env = (false, eval (.Name "str" p2) X.env) :: starEach [] X.env := by rfl)
    (np : (backTo pos (starEach [.Name "str" p2] X.env)).any (·.1) = false := by rfl) : PE X (.Call (.Name "isinstance" p) [e, .Name "str" p2] [] pos) (tCB (rIs "str" isSt) (tCons te (tCons (tC (.ty "str")) tNil))) :=
  pe_callB ci_str hg N.isi PyProof.Rows.boot_isinstance (pa_cons he (pa_cons (pe_bltn (v := .ty "str") hg2 N.str PyProof.Rows.boot_str rfl) pa_nil nb) na) (by decide) (by decide) na np
theorem pe_isTup (N : Nm X.K X.w X.mg) (he : PE X e te) (hg : Gl X "isinstance" := by rfl) (hg2 : Gl X "tuple" := by rfl) (na : starEach [e, .Name "tuple" p2] X.env = (false, eval e X.env) :: starEach [.Name "tuple" p2] X.env := by rfl) (nb : starEach [.Name "tuple" p2] X.env = (false, eval (.Name "tuple" p2) X.env) :: starEach [] X.env := by rfl)
    (np : (backTo pos (starEach [.Name "tuple" p2] X.env)).any (·.1) = false := by rfl) : PE X (.Call (.Name "isinstance" p) [e, .Name "tuple" p2] [] pos) (tCB (rIs "tuple" isTu) (tCons te (tCons (tC (.ty "tuple")) tNil))) :=
  pe_callB ci_tup hg N.isi PyProof.Rows.boot_isinstance (pa_cons he (pa_cons (pe_bltn (v := .ty "tuple") hg2 N.tup PyProof.Rows.boot_tuple rfl) pa_nil nb) na) (by decide) (by decide) na np
theorem pe_len1 (N : Nm X.K X.w X.mg) (he : PE X e te) (hg : Gl X "len" := by rfl) (na : starEach [e] X.env = (false, eval e X.env) :: starEach [] X.env := by rfl)
    (np : (backTo pos (starEach [] X.env)).any (·.1) = false := by rfl) : PE X (.Call (.Name "len" p) [e] [] pos) (tCB rLen (tCons te tNil)) :=
  pe_callB cl_len hg N.len PySem.boot_len (pa_cons he pa_nil na) (by decide) (by decide) na np
end
/-! ### is_number, has_word -/
section
variable {P : Program} {w : World} {K : PySem.W.Frag} {mg : Str → Option Value} {base : Heap}
def spNumber : Sp := fun vs H Q _ => ∃ v d m, vs = [v, .int m] ∧ Tp H v d ∧ Q (.bl (isNum d m)) H
theorem ok_number {f : Addr} {fd : FuncData} (D : Df K mg "is_number" sNumber ["thing", "many"] f fd) (N : Nm K w mg) : FnOk P w K mg base CX0 1 f fd ["thing", "many"] spNumber := by
  refine D.F.ok scNumber (fun vs H Q E h => ?_) (fun cdv A outer s H vs Q E hr h => ?_)
  · obtain ⟨v, d, m, rfl, _⟩ := h
    rfl
  obtain ⟨v, d, m, rfl, hv, q⟩ := h
  refine ⟨_, pss_one (ps_ret (pe_and (pe_isInt N (pv 0)) (pe_and (pe_not (pe_isBool N (pv 0))) (pe_one (pe_chain op_le op_lt pe_int (pv 0) (pv 1)))))), ?_⟩
  refine ⟨_, rfl, v, d, rfl, hv, _, rfl, ite2 (fun c => ?_) (fun c => ?_)⟩
  · refine ⟨_, rfl, v, d, rfl, hv, _, rfl, _, rfl, ite2 (fun c2 => ?_) (fun c2 => ?_)⟩
    · cases hv with
      | int i =>
        refine ⟨_, rfl, _, _, rfl, rfl, _, rfl, ite2 (fun c3 => ?_) (fun c3 => ?_)⟩
        · refine ⟨_, rfl, _, _, rfl, rfl, ?_⟩
          have e : isNum (.int i) m = decide (i < m) := by
            show (decide (0 ≤ i) && decide (i < m)) = _
            rw [c3, Bool.true_and]
          rw [e] at q
          exact q
        · have e : isNum (.int i) m = false := by
            show (decide (0 ≤ i) && decide (i < m)) = _
            rw [Bool.eq_false_iff.mpr c3, Bool.false_and]
          rw [e] at q
          exact q
      | non => cases c
      | bl b => cases c2
      | str x => cases c
      | tup _ _ => cases c
    · cases hv with
      | bl b => exact q
      | int i => exact absurd rfl c2
      | non => cases c
      | str x => cases c
      | tup _ _ => cases c
  · cases hv with
    | int i => exact absurd rfl c
    | bl b => exact absurd rfl c
    | non => exact q
    | str x => exact q
    | tup _ _ => exact q
def wrdT : PyData → Bool
  | .tuple (.str _ :: _) => true
  | _ => false
theorem scHasWord : FnScope ["thing"] ["thing"] (defScope sHasWord) := ⟨rfl, rfl, rfl, by decide +kernel, rfl, by decide +kernel, by decide +kernel⟩
def spHasWord : Sp := fun vs H Q _ => ∃ v d, vs = [v] ∧ Tp H v d ∧ Q (.bl (wrdT d)) H
theorem ok_hasWord {f : Addr} {fd : FuncData} (D : Df K mg "has_word" sHasWord ["thing"] f fd) (N : Nm K w mg) : FnOk P w K mg base CX0 1 f fd ["thing"] spHasWord := by
  refine D.F.ok scHasWord (fun vs H Q E h => ?_) (fun cdv A outer s H vs Q E hr h => ?_)
  · obtain ⟨v, d, rfl, _⟩ := h
    rfl
  obtain ⟨v, d, rfl, hv, q⟩ := h
  refine ⟨_, pss_one (ps_ret (pe_and (pe_isTup N (pv 0)) (pe_and (pe_cmpR op_gt (pe_len1 N (pv 0)) pe_int (nomark _)) (pe_one (pe_isStr N (pe_ix ix_item (pv 0) pe_int (fun _ _ => rfl))))))), ?_⟩
  refine ⟨_, rfl, v, d, rfl, hv, _, rfl, ite2 (fun c => ?_) (fun c => ?_)⟩
  · obtain ⟨ds, rfl⟩ : ∃ ds, d = .tuple ds := by cases d <;> first | exact ⟨_, rfl⟩ | cases c
    refine ⟨_, rfl, v, ds, rfl, hv, _, _, rfl, rfl, _, rfl, ite2 (fun c2 => ?_) (fun c2 => ?_)⟩
    · cases ds with
      | nil => cases c2
      | cons d0 dr =>
        refine ⟨_, rfl, _, 0, d0, hv, rfl, rfl, fun z hz => ⟨z, d0, rfl, hz, ?_⟩⟩
        have e : wrdT (.tuple (d0 :: dr)) = isSt d0 := by cases d0 <;> rfl
        rw [e] at q
        exact q
    · cases ds with
      | nil => exact q
      | cons d0 dr => exact absurd (decide_eq_true (by simp only [List.length_cons]; omega)) c2
  · have e : wrdT d = false := by cases d <;> first | rfl | exact absurd rfl c
    rw [e] at q
    exact q
end
end My
set_option maxRecDepth 100000
set_option maxHeartbeats 4000000
namespace My
open PySem L2
/-! ### a comprehension whose elements leave all as it was -/
def PvF (H1 : Hp) (D : Addr) (rs : List V) : Nat → Hp → Prop := fun i H => Same H1 H ∧ H D = some (.lst (rs.take i))
theorem pvf_0 {H1 : Hp} {D : Addr} {rs : List V} (nD : H1 D = none) : PvF H1 D rs 0 (upd H1 D (.lst [])) := ⟨same_new nD _, upd_same⟩
theorem pvf_step {H1 : Hp} {D : Addr} {rs : List V} {i : Nat} {H H4 : Hp} {y : V} (p : PvF H1 D rs i H) (nD : H1 D = none) (s : Same H H4) (e : rs[i]? = some y) (z : rs.length < sizeLine) :
    ∃ acc, H4 D = some (.lst acc) ∧ acc.length < sizeLine ∧ PvF H1 D rs (i + 1) (upd H4 D (.lst (acc ++ [y]))) := by
  refine ⟨_, s _ _ p.2, ?_, Same.writ (p.1.trans s) nD _, ?_⟩
  · rw [List.length_take]
    exact Nat.lt_of_le_of_lt (Nat.min_le_right _ _) z
  · rw [upd_same, List.take_add_one, e]
    rfl
theorem pvf_end {H1 : Hp} {D : Addr} {rs : List V} {n : Nat} {H : Hp} (p : PvF H1 D rs n H) (e : rs.length ≤ n) : Same H1 H ∧ H D = some (.lst rs) := by
  obtain ⟨p1, p2⟩ := p
  rw [List.take_of_length_le e] at p2
  exact ⟨p1, p2⟩
theorem small {n : Nat} (h : n ≤ 1000) : n ≤ sizeLine := Nat.le_of_lt (small1000 h)
/-! ### parts of a book -/
section
variable {H : Hp} {b k : V} {B : Bk} {n : Nat}
theorem bk_rs (h : Tp H b (bkD B)) : ([tsD B.rs, .tuple (B.vs.map tsD)] : List PyData)[0]? = some (.tuple (B.rs.map ksD)) := rfl
theorem rs_at {fs : List Kd} (e : B.rs[n]? = some fs) : (B.rs.map ksD)[n]? = some (.tuple (fs.map kdD)) := by rw [List.getElem?_map, e]; rfl
theorem vs_at {ts : List (List Kd)} (e : B.vs[n]? = some ts) : (B.vs.map tsD)[n]? = some (.tuple (ts.map ksD)) := by rw [List.getElem?_map, e]; rfl
theorem ks_at {fs : List Kd} {f : Kd} (e : fs[n]? = some f) : (fs.map kdD)[n]? = some (kdD f) := by rw [List.getElem?_map, e]; rfl
theorem ts_at {ts : List (List Kd)} {ps : List Kd} (e : ts[n]? = some ps) : (ts.map ksD)[n]? = some (.tuple (ps.map kdD)) := by rw [List.getElem?_map, e]; rfl
end
/-! ### the words of kinds -/
theorem hd_vec {k : Kd} (h : decide (k.hd = "vec") = true) : ∃ j, k = .vec j := by
  have q := ix_of (a := k) (b := .vec .int) (of_decide_eq_true h)
  cases k <;> first | exact ⟨_, rfl⟩ | cases q
theorem hd_box {k : Kd} (h : decide (k.hd = "box") = true) : ∃ j, k = .box j := by
  have q := ix_of (a := k) (b := .box .int) (of_decide_eq_true h)
  cases k <;> first | exact ⟨_, rfl⟩ | cases q
theorem hd_rcd {k : Kd} (h : decide (k.hd = "record") = true) : ∃ j, k = .rcd j := by
  have q := ix_of (a := k) (b := .rcd 0) (of_decide_eq_true h)
  cases k <;> first | exact ⟨_, rfl⟩ | cases q
theorem hd_vrt {k : Kd} (h : decide (k.hd = "variant") = true) : ∃ j, k = .vrt j := by
  have q := ix_of (a := k) (b := .vrt 0) (of_decide_eq_true h)
  cases k <;> first | exact ⟨_, rfl⟩ | cases q
theorem hd_int {k : Kd} (h : decide (k.hd = "int") = true) : k = .int := by
  have q := ix_of (a := k) (b := .int) (of_decide_eq_true h)
  cases k <;> first | rfl | cases q
theorem hd_bool {k : Kd} (h : decide (k.hd = "bool") = true) : k = .bool := by
  have q := ix_of (a := k) (b := .bool) (of_decide_eq_true h)
  cases k <;> first | rfl | cases q
theorem boot_sum : bootBuiltins "sum" = some (.builtin "sum") := by decide +kernel
theorem boot_all : bootBuiltins "all" = some (.builtin "all") := by decide +kernel
section
variable {X : Cx} {K : PySem.W.Frag}
theorem cr_sumK (hk : X.K = K) (hc : X.calm = true) : CallR X (.builtin "sum") (rSum K) := by subst hk; exact cr_sum hc
theorem cr_allK (hk : X.K = K) (hc : X.calm = true) : CallR X (.builtin "all") (rAll K) := by subst hk; exact cr_all hc
theorem pi_tupK {tg l : Expr} {tl : TE} (hk : X.K = K) (hl : PE X l tl) : PI X tg l (iTup K tl) := by subst hk; exact pi_tup hl
end
/-! ### _law_flat -/
section
variable {P : Program} {w : World} {K : PySem.W.Frag} {mg : Str → Option Value} {base : Heap}
abbrev nFlat : List Str := ["_law_book_here", "_law_kind", "_law_one", "_law_tag"]
theorem scFlat : FnScope nFlat ["_law_book_here", "_law_kind"] (defScope sFlat) := ⟨rfl, rfl, rfl, by decide +kernel, rfl, by decide +kernel, by decide +kernel⟩
def spFlat (B : Bk) (R : Nat) : Sp := fun vs H Q _ => ∃ b k kd, vs = [b, k] ∧ Tp H b (bkD B) ∧ Tp H k (kdD kd) ∧ kd.fits B.rs.length B.vs.length ∧ kd.rk ≤ R ∧ ∀ H', Same H H' → Q (.int (size B kd)) H'
theorem ok_flat {B : Bk} (O : B.Ok) {R : Nat} {f : Addr} {fd : FuncData} (D : Df K mg "_law_flat" sFlat ["_law_book_here", "_law_kind"] f fd) (N : Nm K w mg)
    (G : FnOk P w K mg base CX0 R f fd ["_law_book_here", "_law_kind"] (fun vs H Q E => ∃ m, m < R ∧ spFlat B m vs H Q E)) : FnOk P w K mg base CX0 (R + 1) f fd ["_law_book_here", "_law_kind"] (spFlat B R) := by
  refine D.F.ok scFlat (fun vs H Q E h => ?_) (fun cdv A outer s H vs Q E hr h => ?_)
  · obtain ⟨b, k, kd, rfl, _⟩ := h
    rfl
  obtain ⟨b, k, kd, rfl, hb, hk, hf, hR, q⟩ := h
  refine ⟨_, pss_cons (ps_if (pt_cmpR op_eqS (pe_ix ix_head (pv 1) pe_int (fun _ _ => rfl)) pe_str (nomark _)) (pss_one (ps_ret pe_int)) pss_nil)
    (pss_cons (ps_if (pt_cmpR op_eqS (pe_ix ix_head (pv 1) pe_int (fun _ _ => rfl)) pe_str (nomark _))
      (pss_one (ps_ret (pe_callB (cr_sum rfl) (by rfl) N.sum boot_sum (pa_cons (pe_lc (own := [("_law_one", 2)]) (g := gName 2) (tt := tYes) rfl scFlat.nd
        (pi_tup (pe_ix ix_item (pe_ix ix_item (pv 0) pe_int (fun _ _ => rfl)) (pe_ix ix_item (pv 1) pe_int (fun _ _ => rfl)) (fun _ _ => rfl)))
        (blkOk_by (own := [("_law_one", 2)]) (N := nFlat) (sc := defScope sFlat) (by decide +kernel))
        (fun _ _ _ _ _ => pg_name (i := 2) scFlat.nd rfl (Or.inl rfl)) (fun _ _ _ _ _ => pts_nil)
        (fun _ _ _ _ _ => cl D G hr (pa_cons (pv 0) (pa_cons (pv 2) pa_nil)))) pa_nil)))) pss_nil)
    (pss_cons (ps_if (pt_cmpR op_eqS (pe_ix ix_head (pv 1) pe_int (fun _ _ => rfl)) pe_str (nomark _))
      (pss_one (ps_ret (pe_op op_add pe_int (pe_callB (cr_max rfl) (by rfl) N.max PyProof.Rows.boot_max (pa_cons (pe_lc (own := [("_law_tag", 3)]) (g := gName 3) (tt := tYes) rfl scFlat.nd
        (pi_tup (pe_ix ix_item (pe_ix ix_item (pv 0) pe_int (fun _ _ => rfl)) (pe_ix ix_item (pv 1) pe_int (fun _ _ => rfl)) (fun _ _ => rfl)))
        (blkOk_by (own := [("_law_tag", 3)]) (N := nFlat) (sc := defScope sFlat) (by decide +kernel))
        (fun _ _ _ _ _ => pg_name (i := 3) scFlat.nd rfl (Or.inl rfl)) (fun _ _ _ _ _ => pts_nil)
        (fun _ _ _ _ _ => pe_callB (cr_sumK (K := K) rfl rfl) (by rfl) N.sum boot_sum (pa_cons (pe_lc (own := [("_law_one", 2)]) (g := gName 2) (tt := tYes) rfl scFlat.nd
          (pi_tupK (K := K) rfl (pv 3))
          (blkOk_by (own := [("_law_one", 2)]) (N := nFlat) (by show blkC nFlat (relS _ (defScope sFlat)) _ _ = true; decide +kernel))
          (fun _ _ _ _ _ => pg_name (i := 2) scFlat.nd rfl (Or.inl rfl)) (fun _ _ _ _ _ => pts_nil)
          (fun _ _ _ _ _ => cl D G hr (pa_cons (pv 0) (pa_cons (pv 2) pa_nil)))) pa_nil))) pa_nil))))) pss_nil)
    (pss_one (ps_ret pe_int)))), ?_⟩
  refine ⟨_, rfl, rfl, kd, hk, _, _, rfl, rfl, _, rfl, ite2 (fun c => ?_) (fun c1 => ?_)⟩
  · obtain ⟨j, rfl⟩ := hd_vec c
    exact q H (Same.refl H)
  refine ⟨_, rfl, rfl, kd, hk, _, _, rfl, rfl, _, rfl, ite2 (fun c => ?_) (fun c2 => ?_)⟩
  · obtain ⟨n, rfl⟩ := hd_rcd c
    have hn : n < B.rs.length := hf
    obtain ⟨fs, e⟩ : ∃ fs, B.rs[n]? = some fs := ⟨_, List.getElem?_eq_getElem hn⟩
    have hfs := O.rf n fs e
    have hR' : 2 * n + 1 ≤ R := hR
    refine ⟨b, rfl, _, 0, _, hb, rfl, rfl, fun z hz => ⟨k, rfl, _, 1, _, hk, rfl, rfl, fun z2 hz2 => ?_⟩⟩
    cases hz2
    refine ⟨_, n, _, hz, rfl, rs_at e, fun z3 hz3 => ?_⟩
    obtain ⟨a, xs, rfl, ha, hx, hl⟩ := hz3.open
    rw [List.length_map] at hl
    refine ⟨a, rfl, ⟨xs, SqT.of ha⟩, fun Dl nD => lc_tup (K := K) (a := a) (xs := xs) (PvF H Dl ((fs.map (size B)).map V.int)) (pvf_0 nD) (fun i H' _ p => SqT.of (p.1 _ _ ha)) (fun i x H' hx' p => ?_) (fun H' p => ?_)⟩
    · obtain ⟨d, hd, hxd⟩ := hx.at' hx'
      obtain ⟨kf, hkf, rfl⟩ : ∃ kf, fs[i]? = some kf ∧ kdD kf = d := by
        rw [List.getElem?_map] at hd
        exact Option.map_eq_some_iff.mp hd
      have hg := hfs.2 kf (List.mem_of_getElem? hkf)
      refine ⟨rfl, b, rfl, x, rfl, R - 1, by omega, b, x, kf, rfl, Tp.mono (TSt.of p.1) _ _ hb, Tp.mono (TSt.of p.1) _ _ hxd, hg.fits, by have := hg.rk; omega, fun H4 s4 => pvf_step p nD s4 (by rw [List.getElem?_map, List.getElem?_map, hkf]; rfl) ?_⟩
      rw [List.length_map, List.length_map]
      exact small1000 (by omega)
    · obtain ⟨p1, p2⟩ := pvf_end p (by rw [List.length_map, List.length_map]; omega)
      refine ⟨Dl, fs.map (size B), rfl, SqL.of p2, ?_⟩
      have e2 := size_rec O e
      rw [e2] at q
      exact q H' p1
  refine ⟨_, rfl, rfl, kd, hk, _, _, rfl, rfl, _, rfl, ite2 (fun c => ?_) (fun c3 => ?_)⟩
  · obtain ⟨n, rfl⟩ := hd_vrt c
    have hn : n < B.vs.length := hf
    obtain ⟨ts, e⟩ : ∃ ts, B.vs[n]? = some ts := ⟨_, List.getElem?_eq_getElem hn⟩
    have hts := O.vf n ts e
    have hR' : 2 * n + 2 ≤ R := hR
    refine ⟨b, rfl, _, 1, _, hb, rfl, rfl, fun z hz => ⟨k, rfl, _, 1, _, hk, rfl, rfl, fun z2 hz2 => ?_⟩⟩
    cases hz2
    refine ⟨_, n, _, hz, rfl, vs_at e, fun z3 hz3 => ?_⟩
    obtain ⟨a, xs, rfl, ha, hx, hl⟩ := hz3.open
    rw [List.length_map] at hl
    refine ⟨a, rfl, ⟨xs, SqT.of ha⟩, fun Dl nD => lc_tup (K := K) (a := a) (xs := xs) (PvF H Dl ((ts.map (sizes B)).map V.int)) (pvf_0 nD) (fun i H' _ p => SqT.of (p.1 _ _ ha)) (fun i x H' hx' p => ?_) (fun H' p => ?_)⟩
    · obtain ⟨d, hd, hxd⟩ := hx.at' hx'
      obtain ⟨ps, hps, rfl⟩ : ∃ ps, ts[i]? = some ps ∧ ksD ps = d := by
        rw [List.getElem?_map] at hd
        exact Option.map_eq_some_iff.mp hd
      have hg := hts.2.2 ps (List.mem_of_getElem? hps)
      have hxd' : Tp H x (.tuple (ps.map kdD)) := hxd
      obtain ⟨a2, xs2, rfl, ha2, hx2, hl2⟩ := (Tp.mono (TSt.of p.1) _ _ hxd').open
      rw [List.length_map] at hl2
      refine ⟨rfl, _, rfl, a2, rfl, ⟨xs2, SqT.of ha2⟩, fun D2 nD2 => lc_tup (K := K) (a := a2) (xs := xs2) (PvF H' D2 ((ps.map (size B)).map V.int)) (pvf_0 nD2) (fun i H' _ p => SqT.of (p.1 _ _ ha2)) (fun i2 x2 H2 hx2' p2 => ?_) (fun H2 p2 => ?_)⟩
      · obtain ⟨d2, hd2, hxd2⟩ := hx2.at' hx2'
        obtain ⟨kf, hkf, rfl⟩ : ∃ kf, ps[i2]? = some kf ∧ kdD kf = d2 := by
          rw [List.getElem?_map] at hd2
          exact Option.map_eq_some_iff.mp hd2
        have hg2 := hg.2 kf (List.mem_of_getElem? hkf)
        refine ⟨rfl, b, rfl, x2, rfl, R - 1, by omega, b, x2, kf, rfl, Tp.mono (TSt.of (p.1.trans p2.1)) _ _ hb, Tp.mono (TSt.of p2.1) _ _ hxd2, hg2.fits, by have := hg2.rk; omega, fun H4 s4 => pvf_step p2 nD2 s4 (by rw [List.getElem?_map, List.getElem?_map, hkf]; rfl) ?_⟩
        rw [List.length_map, List.length_map]
        exact small1000 (by omega)
      · obtain ⟨p3, p4⟩ := pvf_end p2 (by rw [List.length_map, List.length_map]; omega)
        refine ⟨D2, ps.map (size B), rfl, SqL.of p4, ?_⟩
        refine pvf_step p nD p3 (by rw [List.getElem?_map, List.getElem?_map, hps]; rfl) ?_
        rw [List.length_map, List.length_map]
        exact small1000 (by omega)
    · obtain ⟨p1, p2⟩ := pvf_end p (by rw [List.length_map, List.length_map]; omega)
      refine ⟨Dl, ts.map (sizes B), rfl, SqL.of p2, by rw [List.length_map]; omega, fun m hm hle => ?_⟩
      have e2 := size_var O e
      rw [← mx_eq hm hle] at e2
      rw [e2] at q
      exact ⟨_, _, rfl, rfl, q H' p1⟩
  · have e2 : size B kd = 1 := by
      cases kd with
      | vec j => exact absurd (decide_eq_true rfl) c1
      | rcd j => exact absurd (decide_eq_true rfl) c2
      | vrt j => exact absurd (decide_eq_true rfl) c3
      | _ => rfl
    rw [e2] at q
    exact q H (Same.refl H)
end
end My
set_option maxRecDepth 100000
set_option maxHeartbeats 4000000
namespace My
open PySem L2
/-! ### named_size, flat_size, sum_of_sizes -/
def nk : Kd → List Key
  | .rcd n => [.inr "record", .inl n]
  | .vrt n => [.inr "variant", .inl n]
  | _ => []
theorem nk_inj {a b : Kd} (ha : 1 ≤ a.rk) (hb : 1 ≤ b.rk) (h : nk a = nk b) : a = b := by
  have ne : ¬ ("record" : Str) = "variant" := by decide +kernel
  have ne2 : ¬ ("variant" : Str) = "record" := by decide +kernel
  cases a <;> cases b <;> simp only [nk, Kd.rk, List.cons.injEq, Sum.inr.injEq, Sum.inl.injEq, ne, ne2, false_and, true_and, and_true, reduceCtorEq, Nat.not_succ_le_zero] at h ha hb ⊢
  all_goals first
    | omega
    | (congr 1; omega)
    | exact congrArg _ (by omega)
theorem nk_tup {H : Hp} {v : V} {kd : Kd} (h : Tp H v (kdD kd)) (hr : 1 ≤ kd.rk) : ∃ b, v = .ref b ∧ H b = some (.tup ((nk kd).map kV)) := by
  cases kd with
  | rcd n =>
    obtain ⟨b, xs, rfl, hb, hx, _⟩ := h.open
    cases hx with
    | cons h1 h2 =>
      cases h1
      cases h2 with
      | cons h3 h4 =>
        cases h3
        cases h4
        exact ⟨b, rfl, hb⟩
  | vrt n =>
    obtain ⟨b, xs, rfl, hb, hx, _⟩ := h.open
    cases hx with
    | cons h1 h2 =>
      cases h1
      cases h2 with
      | cons h3 h4 =>
        cases h3
        cases h4
        exact ⟨b, rfl, hb⟩
  | _ => simp [Kd.rk] at hr
abbrev KVs := List (List Key × V)
def KnOk (B : Bk) (R : Nat) (kvs : KVs) : Prop := ∀ j : Kd, 1 ≤ j.rk → j.rk ≤ R → valV kvs (nk j) = none ∨ valV kvs (nk j) = some (.int (size B j))
def KnS (B : Bk) (R : Nat) (kn : Addr) (kvs0 : KVs) (g : Nat) (H0 H : Hp) (kvs : KVs) : Prop :=
  St1 kn H0 H ∧ H kn = some (.dT kvs) ∧ KnOk B R kvs ∧ (∀ j : Kd, R < j.rk → valV kvs (nk j) = valV kvs0 (nk j)) ∧ kvs.length ≤ kvs0.length + g
abbrev CAP : Nat := 1000000
theorem CAP_lt : CAP < sizeLine := by decide
theorem cap_lt {n : Nat} (h : n ≤ CAP) : n < sizeLine := Nat.lt_of_le_of_lt h CAP_lt
theorem KnOk.mono {B : Bk} {R r : Nat} {kvs : KVs} (h : KnOk B R kvs) (hr : r ≤ R) : KnOk B r kvs := fun j h1 h2 => h j h1 (by omega)
theorem KnOk.nil (B : Bk) (R : Nat) : KnOk B R [] := fun _ _ _ => .inl rfl
def Sz (B : Bk) (kd : Kd) : Prop := kd.fits B.rs.length B.vs.length ∨ ∃ j, kd = .rf j ∨ kd = .mt j
def spSz (B : Bk) (R : Nat) (nm : Bool) : Sp := fun vs H Q _ => ∃ b k kd kn kvs, vs = [b, k, .ref kn] ∧ Tp H b (bkD B) ∧ Tp H k (kdD kd) ∧ Sz B kd ∧ (nm = true → 1 ≤ kd.rk) ∧ kd.rk ≤ R ∧ H kn = some (.dT kvs) ∧ KnOk B R kvs ∧ kvs.length + 8 ^ R ≤ CAP ∧
  ∀ H' kvs', KnS B R kn kvs (8 ^ R) H H' kvs' → Q (.int (size B kd)) H'
def spSums (B : Bk) (R : Nat) : Sp := fun vs H Q _ => ∃ b k ks kn kvs, vs = [b, k, .ref kn] ∧ Tp H b (bkD B) ∧ Tp H k (.tuple (ks.map kdD)) ∧ (∀ kd ∈ ks, kd.fits B.rs.length B.vs.length ∧ kd.rk ≤ R) ∧ ks.length ≤ 3 ∧ H kn = some (.dT kvs) ∧ KnOk B R kvs ∧ kvs.length + ks.length * 8 ^ R ≤ CAP ∧
  ∀ H' kvs', KnS B R kn kvs (ks.length * 8 ^ R) H H' kvs' → Q (.int (sizes B ks)) H'
section
variable {P : Program} {w : World} {K : PySem.W.Frag} {mg : Str → Option Value} {base : Heap}
abbrev pSz : List Str := ["book", "kind", "known"]
abbrev pSums : List Str := ["book", "kinds", "known"]
theorem scFlatSize : FnScope pSz pSz (defScope sFlatSize) := ⟨rfl, rfl, rfl, by decide +kernel, rfl, by decide +kernel, by decide +kernel⟩
abbrev nSums : List Str := ["book", "kinds", "known", "sizes", "kind"]
theorem scSums : FnScope nSums pSums (defScope sSumSizes) := ⟨rfl, rfl, rfl, by decide +kernel, rfl, by decide +kernel, by decide +kernel⟩
abbrev nNamed : List Str := ["book", "kind", "known", "sums", "tag"]
theorem ok_flatSize {B : Bk} {R : Nat} {k : Nat} {f g : Addr} {fd gd : FuncData} (D : Df K mg "flat_size" sFlatSize pSz f fd) (N : Nm K w mg) (Dn : Df K mg "named_size" sNamed pSz g gd)
    (G : FnOk P w K mg base CX0 k g gd pSz (spSz B R true)) : FnOk P w K mg base CX0 (k + 1) f fd pSz (spSz B R false) := by
  obtain ⟨d, es, n, mS, kD, k1, ⟨t3, k3⟩, kr, kv⟩ := N.sizes
  refine D.F.ok scFlatSize (fun vs H Q E h => ?_) (fun cdv A outer s H vs Q E hr h => ?_)
  · obtain ⟨b, k, kd, kn, kvs, rfl, _⟩ := h
    rfl
  obtain ⟨b, kx, kd, kn, kvs, rfl, hb, hk, hz, _, hR, hkn, hok, hcap, q⟩ := h
  refine ⟨_, pss_cons (ps_if (pt_cmpR (op_in_kd kD) (pe_ix ix_head (pv 1) pe_int (fun _ _ => rfl)) (pe_glob (v := .ref d) rfl mS rfl) (by rfl)) (pss_one (ps_ret (pe_ix ix_kdict (pe_glob (v := .ref d) rfl mS rfl) (pe_ix ix_head (pv 1) pe_int (fun _ _ => rfl)) (fun _ _ => rfl)))) pss_nil)
    (pss_one (ps_ret (cl Dn G hr (pa_cons (pv 0) (pa_cons (pv 1) (pa_cons (pv 2) pa_nil)))))), ?_⟩
  have same : KnS B R kn kvs (8 ^ R) H H kvs := ⟨St1.refl _ _, hkn, hok, fun _ _ => rfl, Nat.le_add_right _ _⟩
  have two : (∃ i t, PySem.W.nsIn K d kd.hd = some (some (.int i t)) ∧ size B kd = i) ∨ (PySem.W.nsIn K d kd.hd = some none ∧ 1 ≤ kd.rk) := by
    cases kd with
    | int => obtain ⟨t, e⟩ := k1 "int" (.inl rfl); exact .inl ⟨1, t, e, rfl⟩
    | bool => obtain ⟨t, e⟩ := k1 "bool" (.inr (.inl rfl)); exact .inl ⟨1, t, e, rfl⟩
    | box j => obtain ⟨t, e⟩ := k1 "box" (.inr (.inr (.inl rfl))); exact .inl ⟨1, t, e, rfl⟩
    | rf j => obtain ⟨t, e⟩ := k1 "ref" (.inr (.inr (.inr (.inl rfl)))); exact .inl ⟨1, t, e, rfl⟩
    | mt j => obtain ⟨t, e⟩ := k1 "mut" (.inr (.inr (.inr (.inr rfl)))); exact .inl ⟨1, t, e, rfl⟩
    | vec j => exact .inl ⟨3, t3, k3, rfl⟩
    | rcd j => exact .inr ⟨kr, by simp [Kd.rk]⟩
    | vrt j => exact .inr ⟨kv, by simp [Kd.rk]⟩
  rcases two with ⟨i, t, e, e2⟩ | ⟨e, h1⟩
  · refine ⟨_, rfl, rfl, kd, hk, kd.hd, _, rfl, rfl, e, _, rfl, ?_⟩
    refine iteT ⟨_, rfl, rfl, kd, hk, d, kd.hd, .int i, rfl, rfl, ⟨es, n, _, kD.at_, kD.lit, e, ⟨_, rfl⟩⟩, ?_⟩
    have q' := q H kvs same
    rw [e2] at q'
    exact q'
  · refine ⟨_, rfl, rfl, kd, hk, kd.hd, _, rfl, rfl, e, _, rfl, ?_⟩
    refine iteF ⟨b, rfl, kx, rfl, _, rfl, b, kx, kd, kn, kvs, rfl, hb, hk, hz, fun _ => h1, hR, hkn, hok, hcap, q⟩
theorem ok_sums {B : Bk} {R : Nat} {k : Nat} {f g : Addr} {fd gd : FuncData} (D : Df K mg "sum_of_sizes" sSumSizes pSums f fd) (N : Nm K w mg) (Df : Df K mg "flat_size" sFlatSize pSz g gd)
    (G : FnOk P w K mg base CX0 k g gd pSz (spSz B R false)) : FnOk P w K mg base CX0 (k + 1) f fd pSums (spSums B R) := by
  refine D.F.ok scSums (fun vs H Q E h => ?_) (fun cdv A outer s H vs Q E hr h => ?_)
  · obtain ⟨b, k, kd, kn, kvs, rfl, _⟩ := h
    rfl
  obtain ⟨b, kx, ks, kn, kvs, rfl, hb, hk, hz, h3, hkn, hok, hcap, q⟩ := h
  refine ⟨_, pss_cons (ps_setLc (i := 3) (own := [("kind", 4)]) (g := gName 4) (tt := tYes) rfl scSums.nd rfl rfl (sw_true rfl rfl rfl (by decide +kernel)) (pi_tup (pv 1))
      (blkOk_by (own := [("kind", 4)]) (N := nSums) (sc := defScope sSumSizes) (by decide +kernel))
      (fun _ _ _ _ _ => pg_name (i := 4) scSums.nd rfl (Or.inl rfl)) (fun _ _ _ _ _ => pts_nil)
      (fun _ _ _ _ _ => cl Df G hr (pa_cons (pv 0) (pa_cons (pv 4) (pa_cons (pv 2) pa_nil)))))
    (pss_cons (ps_if (pt_cmpR op_in_seq (pe_un un_neg pe_int) (pv 3) (by rfl)) (pss_one (ps_ret (pe_un un_neg pe_int))) pss_nil)
    (pss_one (ps_ret (pe_callB (cr_sum rfl) (by rfl) N.sum boot_sum (pa_cons (pv 3) pa_nil))))), ?_⟩
  have hlen : ((ks.map (size B)).map V.int).length = ks.length := by rw [List.length_map, List.length_map]
  obtain ⟨a, xs, rfl, ha, hx, hl⟩ := hk.open
  rw [List.length_map] at hl
  refine ⟨_, rfl, a, rfl, ⟨xs, SqT.of ha⟩, fun Dl nD => lc_tup (K := K) (a := a) (xs := xs)
    (fun i H' => ∃ kvs', KnS B R kn kvs (i * 8 ^ R) H H' kvs' ∧ H' Dl = some (.lst (((ks.map (size B)).map V.int).take i))) ⟨kvs, ⟨fun c o e n => by rw [upd_ne (ne_of_none e nD)]; exact e, by rw [upd_ne (ne_of_none hkn nD)]; exact hkn, hok, fun _ _ => rfl, by omega⟩, upd_same⟩
    (fun i H' _ ⟨kvs', p, _⟩ => SqT.of (p.1 _ _ ha (ne_of ha hkn (by intro z; cases z)))) (fun i x H' hx' ⟨kvs', p, pD⟩ => ?_) (fun H' ⟨kvs', p, pD⟩ => ?_)⟩
  · obtain ⟨d, hd, hxd⟩ := hx.at' hx'
    obtain ⟨kf, hkf, rfl⟩ : ∃ kf, ks[i]? = some kf ∧ kdD kf = d := by
      rw [List.getElem?_map] at hd
      exact Option.map_eq_some_iff.mp hd
    have hg := hz kf (List.mem_of_getElem? hkf)
    have hi := (List.getElem?_eq_some_iff.mp hkf).1
    have ts : TSt H H' := p.1.ts hkn (by intro xs z; cases z)
    have hm : (i + 1) * 8 ^ R ≤ ks.length * 8 ^ R := Nat.mul_le_mul_right _ hi
    rw [Nat.succ_mul] at hm
    have nDk : Dl ≠ kn := (ne_of_none hkn nD).symm
    refine ⟨rfl, b, rfl, x, rfl, _, rfl, b, x, kf, kn, kvs', rfl, Tp.mono ts _ _ hb, Tp.mono ts _ _ hxd, .inl hg.1, (fun z => by cases z), hg.2, p.2.1, p.2.2.1, by have := p.2.2.2.2; omega, fun H4 kvs4 p4 => ?_⟩
    refine ⟨_, p4.1 _ _ pD nDk, ?_, kvs4, ⟨?_, ?_, p4.2.2.1, fun j hj => (p4.2.2.2.1 j hj).trans (p.2.2.2.1 j hj), ?_⟩, ?_⟩
    · rw [List.length_take, hlen]
      exact small1000 (by omega)
    · exact (p.1.trans p4.1).writ nD _
    · rw [upd_ne nDk.symm]
      exact p4.2.1
    · have := p4.2.2.2.2
      have := p.2.2.2.2
      rw [Nat.succ_mul]
      omega
    · rw [upd_same, List.take_add_one, List.getElem?_map, List.getElem?_map, hkf]
      rfl
  · have e0 : (((ks.map (size B)).map V.int).take xs.length) = ((ks.map (size B)).map V.int) := List.take_of_length_le (by omega)
    rw [e0] at pD
    rw [hl] at p
    have no : ((ks.map (size B)).map V.int).any (fun y => eqV y (.int (-1))) = false := by
      rw [List.any_eq_false]
      intro y hy
      obtain ⟨z, hz2, rfl⟩ := List.mem_map.mp hy
      obtain ⟨kf, _, rfl⟩ := List.mem_map.mp hz2
      have := size_nonneg B kf
      simp [eqV]
      omega
    have fl : ((ks.map (size B)).map V.int).all flatV = true := by
      rw [List.all_eq_true]
      intro y hy
      obtain ⟨z, _, rfl⟩ := List.mem_map.mp hy
      rfl
    refine ⟨1, rfl, _, rfl, Dl, _, rfl, .inl (SqL.of pD), rfl, fl, _, rfl, ite2 (fun c => ?_) (fun _ => ?_)⟩
    · have c' : ((ks.map (size B)).map V.int).any (fun y => eqV y (.int (-1))) = true := c
      rw [no] at c'
      cases c'
    · exact ⟨_, rfl, Dl, ks.map (size B), rfl, SqL.of pD, q H' kvs' p⟩
theorem ok_named {B : Bk} (O : B.Ok) {R : Nat} {k : Nat} {f g : Addr} {fd gd : FuncData} (D : Df K mg "named_size" sNamed pSz f fd) (N : Nm K w mg) (Ds : Df K mg "sum_of_sizes" sSumSizes pSums g gd)
    (G : FnOk P w K mg base CX0 k g gd pSums (fun vs H Q E => ∃ m, m < R ∧ spSums B m vs H Q E)) : FnOk P w K mg base CX0 (k + 1) f fd pSz (spSz B R true) := by
  refine D.F.ok scNamed (fun vs H Q E h => ?_) (fun cdv A outer s H vs Q E hr h => ?_)
  · obtain ⟨b, k, kd, kn, kvs, rfl, _⟩ := h
    rfl
  obtain ⟨b, kx, kd, kn, kvs, rfl, hb, hk, hz, h1, hR, hkn, hok, hcap, q⟩ := h
  have hu := hu_of hr
  refine ⟨_, pss_cons (ps_if (pt_cmp (pc_dnotin hu (pv 1) (pv 2)))
      (pss_cons (ps_dput hu (pv 2) (pv 1) (pe_un un_neg pe_int) rfl)
      (pss_one (ps_if (pt_cmpR op_eqS (pe_ix ix_head (pv 1) pe_int (fun _ _ => rfl)) pe_str (nomark _))
        (pss_one (ps_dput hu (pv 2) (pv 1) (cl Ds G hr (pa_cons (pv 0) (pa_cons (pe_ix ix_item (pe_ix ix_item (pv 0) pe_int (fun _ _ => rfl)) (pe_ix ix_item (pv 1) pe_int (fun _ _ => rfl)) (fun _ _ => rfl)) (pa_cons (pv 2) pa_nil)))) rfl))
        (pss_cons (ps_setLc (i := 3) (own := [("tag", 4)]) (g := gName 4) (tt := tYes) rfl scNamed.nd rfl rfl (sw_true rfl rfl rfl (by decide +kernel))
            (pi_tup (pe_ix ix_item (pe_ix ix_item (pv 0) pe_int (fun _ _ => rfl)) (pe_ix ix_item (pv 1) pe_int (fun _ _ => rfl)) (fun _ _ => rfl)))
            (blkOk_by (own := [("tag", 4)]) (N := nNamed) (sc := defScope sNamed) (by decide +kernel))
            (fun _ _ _ _ _ => pg_name (i := 4) scNamed.nd rfl (Or.inl rfl)) (fun _ _ _ _ _ => pts_nil)
            (fun _ _ _ _ _ => cl Ds G hr (pa_cons (pv 0) (pa_cons (pv 4) (pa_cons (pv 2) pa_nil)))))
        (pss_one (ps_dput hu (pv 2) (pv 1) (pe_ifExp (pt_cmpR op_in_seq (pe_un un_neg pe_int) (pv 3) (by rfl)) (pe_un un_neg pe_int) (pe_op op_add pe_int (pe_callB (cr_max rfl) (by rfl) N.max PyProof.Rows.boot_max (pa_cons (pv 3) pa_nil)))) rfl))))))
      pss_nil)
    (pss_one (ps_ret (pe_dget hu (pv 2) (pv 1) (fun _ _ => rfl)))), ?_⟩
  obtain ⟨kb, rfl, hkb⟩ := nk_tup hk (h1 rfl)
  have h1 := h1 rfl
  have fits : kd.fits B.rs.length B.vs.length := by
    rcases hz with h | ⟨j, h | h⟩
    · exact h
    · subst h; simp [Kd.rk] at h1
    · subst h; simp [Kd.rk] at h1
  have h81 : 1 ≤ 8 ^ R := Nat.one_le_pow _ _ (by decide)
  have nbk : kb ≠ kn := ne_of hkb hkn (by intro z; cases z)
  refine ⟨.ref kb, rfl, .ref kn, rfl, kn, _, rfl, DGet.t hkn hkb, _, rfl, ite2 (fun c => ?_) (fun c => ?_)⟩
  · obtain ⟨m, hm⟩ : ∃ m, kd.rk = m + 1 := ⟨kd.rk - 1, by omega⟩
    have hmlt : m < R := by omega
    have hmR : 8 * 8 ^ m ≤ 8 ^ R := by
      have := Nat.pow_le_pow_right (show 1 ≤ 8 by decide) (show m + 1 ≤ R by omega)
      rw [Nat.pow_succ, Nat.mul_comm] at this
      exact this
    have h8m : 1 ≤ 8 ^ m := Nat.one_le_pow _ _ (by decide)
    generalize hE : 8 ^ m = EE at hmR h8m
    -- known[kind] = -1
    refine ⟨1, rfl, .ref kn, rfl, .ref kb, rfl, kn, _, rfl, DPut.t hkn hkb (cap_lt (by omega)), ?_⟩
    have l1 := length_putK kvs (nk kd) (.int (-1))
    have v1 : ∀ j, valV (putK kvs (nk kd) (.int (-1))) j = if j = nk kd then some (.int (-1)) else valV kvs j := fun j => valV_put _ _ _ _
    generalize putK kvs (nk kd) (.int (-1)) = kvs1 at l1 v1
    have s1 : St1 kn H (upd H kn (.dT kvs1)) := (St1.refl _ _).upd
    have ts1 : TSt H (upd H kn (.dT kvs1)) := s1.ts hkn (by intro xs z; cases z)
    have other : ∀ j : Kd, 1 ≤ j.rk → j ≠ kd → valV kvs1 (nk j) = valV kvs (nk j) := fun j hj hn => by
      rw [v1, if_neg (fun e => hn (nk_inj hj h1 e))]
    have ok1 : KnOk B m kvs1 := fun j hj hjm => by
      rw [other j hj (fun e => by rw [e] at hjm; omega)]
      exact hok j hj (by omega)
    have hb1 := Tp.mono ts1 _ _ hb
    have hk1 := Tp.mono ts1 _ _ hk
    have hkn1 : (upd H kn (.dT kvs1)) kn = some (.dT kvs1) := upd_same
    have hkb1 : (upd H kn (.dT kvs1)) kb = some (.tup ((nk kd).map kV)) := by rw [upd_ne nbk]; exact hkb
    -- the end: behind what the parts made, the size is stored
    have fine : ∀ (H2 : Hp) (kvs2 : KVs) (i : Int), KnS B m kn kvs1 (6 * EE) (upd H kn (.dT kvs1)) H2 kvs2 → i = size B kd → ∃ H4, DPut H2 kn (.ref kb) (.int i) H4 ∧ ∃ v3, DGet H4 kn (.ref kb) (some v3) ∧ Q v3 H4 := fun H2 kvs2 i p e => by
      have hkb2 : H2 kb = some (.tup ((nk kd).map kV)) := p.1 _ _ hkb1 nbk
      have := p.2.2.2.2
      have l2 := length_putK kvs2 (nk kd) (.int i)
      have v2 : ∀ j, valV (putK kvs2 (nk kd) (.int i)) j = if j = nk kd then some (.int i) else valV kvs2 j := fun j => valV_put _ _ _ _
      refine ⟨_, DPut.t p.2.1 hkb2 (cap_lt (by omega)), .int i, ?_, ?_⟩
      · have g := DGet.t (a := kn) (b := kb) (kvs := putK kvs2 (nk kd) (.int i)) (k := nk kd) (H := upd H2 kn (.dT (putK kvs2 (nk kd) (.int i)))) upd_same (by rw [upd_ne nbk]; exact hkb2)
        rw [v2, if_pos rfl] at g
        exact g
      · rw [e]
        rw [e] at l2 v2
        refine q _ (putK kvs2 (nk kd) (.int (size B kd))) ⟨(s1.trans p.1).upd, upd_same, fun j hj hjR => ?_, fun j hj => ?_, by omega⟩
        · rw [v2]
          by_cases ej : j = kd
          · subst ej
            rw [if_pos rfl]
            exact .inr rfl
          · rw [if_neg (fun z => ej (nk_inj hj h1 z))]
            by_cases hjm : j.rk ≤ m
            · exact p.2.2.1 j hj hjm
            · rw [p.2.2.2.1 j (by omega), other j hj ej]
              exact hok j hj hjR
        · have ej : j ≠ kd := fun z => by rw [z] at hj; omega
          rw [v2, if_neg (fun z => ej (nk_inj (by omega) h1 z)), p.2.2.2.1 j (by omega), other j (by omega) ej]
    refine ⟨_, rfl, rfl, kd, hk1, _, _, rfl, rfl, _, rfl, ite2 (fun c => ?_) (fun c2 => ?_)⟩
    · obtain ⟨n, rfl⟩ := hd_rcd c
      have hn : n < B.rs.length := fits
      obtain ⟨fs, e⟩ : ∃ fs, B.rs[n]? = some fs := ⟨_, List.getElem?_eq_getElem hn⟩
      have hfs := O.rf n fs e
      simp only [Kd.rk] at hm
      refine ⟨b, rfl, b, rfl, _, 0, _, hb1, rfl, rfl, fun z hz => ⟨_, rfl, _, 1, _, hk1, rfl, rfl, fun z2 hz2 => ?_⟩⟩
      cases hz2
      have hmul : fs.length * EE ≤ 3 * EE := Nat.mul_le_mul_right _ hfs.1
      refine ⟨_, n, _, hz, rfl, rs_at e, fun z3 hz3 => ⟨_, rfl, m, hmlt, b, z3, fs, kn, kvs1, rfl, hb1, hz3, fun kf hkf => ⟨(hfs.2 kf hkf).fits, by have := (hfs.2 kf hkf).rk; omega⟩, hfs.1, hkn1, ok1, by rw [hE]; omega, fun H2 kvs2 p => ?_⟩⟩
      rw [hE] at p
      obtain ⟨H4, dp, v3, dg, qq⟩ := fine H2 kvs2 (sizes B fs) ⟨p.1, p.2.1, p.2.2.1, p.2.2.2.1, by have := p.2.2.2.2; omega⟩ (size_rec O e).symm
      exact ⟨.ref kn, rfl, .ref kb, rfl, kn, H4, rfl, dp, .ref kn, rfl, .ref kb, rfl, kn, v3, rfl, dg, qq⟩
    · obtain ⟨n, rfl⟩ : ∃ n, kd = .vrt n := by
        cases kd with
        | vrt n => exact ⟨n, rfl⟩
        | rcd n => exact absurd (decide_eq_true rfl) c2
        | _ => simp [Kd.rk] at h1
      have hn : n < B.vs.length := fits
      obtain ⟨ts, e⟩ : ∃ ts, B.vs[n]? = some ts := ⟨_, List.getElem?_eq_getElem hn⟩
      have hts := O.vf n ts e
      simp only [Kd.rk] at hm
      refine ⟨b, rfl, _, 1, _, hb1, rfl, rfl, fun z hz => ⟨_, rfl, _, 1, _, hk1, rfl, rfl, fun z2 hz2 => ?_⟩⟩
      cases hz2
      refine ⟨_, n, _, hz, rfl, vs_at e, fun z3 hz3 => ?_⟩
      have hlen : ((ts.map (sizes B)).map V.int).length = ts.length := by rw [List.length_map, List.length_map]
      obtain ⟨a, xs, rfl, ha, hx, hl⟩ := hz3.open
      rw [List.length_map] at hl
      generalize upd H kn (.dT kvs1) = H1 at *
      refine ⟨a, rfl, ⟨xs, SqT.of ha⟩, fun Dl nD => lc_tup (K := K) (a := a) (xs := xs)
        (fun i H' => ∃ kvs', KnS B m kn kvs1 (i * (2 * EE)) H1 H' kvs' ∧ H' Dl = some (.lst (((ts.map (sizes B)).map V.int).take i))) ⟨kvs1, ⟨fun c o e n => by rw [upd_ne (ne_of_none e nD)]; exact e, by rw [upd_ne (ne_of_none hkn1 nD)]; exact hkn1, ok1, fun _ _ => rfl, by omega⟩, upd_same⟩
        (fun i H' _ ⟨kvs', p, _⟩ => SqT.of (p.1 _ _ ha (ne_of ha hkn1 (by intro z; cases z)))) (fun i x H' hx' ⟨kvs', p, pD⟩ => ?_) (fun H' ⟨kvs', p, pD⟩ => ?_)⟩
      · obtain ⟨d, hd, hxd⟩ := hx.at' hx'
        obtain ⟨ps, hps, rfl⟩ : ∃ ps, ts[i]? = some ps ∧ ksD ps = d := by
          rw [List.getElem?_map] at hd
          exact Option.map_eq_some_iff.mp hd
        have hg := hts.2.2 ps (List.mem_of_getElem? hps)
        have hi := (List.getElem?_eq_some_iff.mp hps).1
        have hxd' : Tp H1 x (.tuple (ps.map kdD)) := hxd
        have ts' : TSt H1 H' := p.1.ts hkn1 (by intro xs z; cases z)
        have hm2 : i ≤ 2 := by omega
        have hmi : i * (2 * EE) ≤ 2 * (2 * EE) := Nat.mul_le_mul_right _ hm2
        have hmul : ps.length * EE ≤ 2 * EE := Nat.mul_le_mul_right _ hg.1
        have nDk : Dl ≠ kn := (ne_of_none hkn1 nD).symm
        have lp := p.2.2.2.2
        refine ⟨rfl, b, rfl, x, rfl, _, rfl, m, hmlt, b, x, ps, kn, kvs', rfl, Tp.mono ts' _ _ hb1, Tp.mono ts' _ _ hxd', fun kf hkf => ⟨(hg.2 kf hkf).fits, by have := (hg.2 kf hkf).rk; omega⟩, by omega, p.2.1, p.2.2.1, by rw [hE]; omega, fun H4 kvs4 p4 => ?_⟩
        rw [hE] at p4
        refine ⟨_, p4.1 _ _ pD nDk, ?_, kvs4, ⟨(p.1.trans p4.1).writ nD _, ?_, p4.2.2.1, fun j hj => (p4.2.2.2.1 j hj).trans (p.2.2.2.1 j hj), ?_⟩, ?_⟩
        · rw [List.length_take, hlen]
          exact small1000 (by omega)
        · rw [upd_ne nDk.symm]
          exact p4.2.1
        · have := p4.2.2.2.2
          rw [Nat.succ_mul]
          omega
        · rw [upd_same, List.take_add_one, List.getElem?_map, List.getElem?_map, hps]
          rfl
      · have e0 : (((ts.map (sizes B)).map V.int).take xs.length) = ((ts.map (sizes B)).map V.int) := List.take_of_length_le (by omega)
        rw [e0] at pD
        have hmi : xs.length * (2 * EE) ≤ 3 * (2 * EE) := Nat.mul_le_mul_right _ (by omega)
        have no : ((ts.map (sizes B)).map V.int).any (fun y => eqV y (.int (-1))) = false := by
          rw [List.any_eq_false]
          intro y hy
          obtain ⟨z, hz2, rfl⟩ := List.mem_map.mp hy
          obtain ⟨kf, _, rfl⟩ := List.mem_map.mp hz2
          have := sizes_nonneg B kf
          simp [eqV]
          omega
        have fl : ((ts.map (sizes B)).map V.int).all flatV = true := by
          rw [List.all_eq_true]
          intro y hy
          obtain ⟨z, _, rfl⟩ := List.mem_map.mp hy
          rfl
        refine ⟨1, rfl, _, rfl, Dl, _, rfl, .inl (SqL.of pD), rfl, fl, _, rfl, ite2 (fun c => ?_) (fun _ => ?_)⟩
        · have c' : ((ts.map (sizes B)).map V.int).any (fun y => eqV y (.int (-1))) = true := c
          rw [no] at c'
          cases c'
        · refine ⟨_, rfl, Dl, ts.map (sizes B), rfl, SqL.of pD, by rw [List.length_map]; omega, fun mm hm1 hle => ?_⟩
          have e2 := size_var O e
          rw [← mx_eq hm1 hle] at e2
          obtain ⟨H4, dp, v3, dg, qq⟩ := fine H' kvs' (1 + mm) ⟨p.1, p.2.1, p.2.2.1, p.2.2.2.1, by have := p.2.2.2.2; omega⟩ e2.symm
          exact ⟨_, _, rfl, rfl, .ref kn, rfl, .ref kb, rfl, kn, H4, rfl, dp, .ref kn, rfl, .ref kb, rfl, kn, v3, rfl, dg, qq⟩
  · cases ev : valV kvs (nk kd) with
    | none => exact absurd (by rw [ev]; rfl) c
    | some v =>
      rcases hok kd h1 hR with h | h
      · rw [h] at ev
        cases ev
      · refine ⟨.ref kn, rfl, .ref kb, rfl, kn, .int (size B kd), rfl, ?_, q H kvs ⟨St1.refl _ _, hkn, hok, fun _ _ => rfl, Nat.le_add_right _ _⟩⟩
        have g := DGet.t hkn hkb
        rw [h] at g
        exact g
end
end My
set_option maxRecDepth 100000
set_option maxHeartbeats 4000000
namespace My
open PySem L2
/-! ### slices of tuples -/
def cutD (ds : List PyData) (lo hi : Option Int) : List PyData := (ds.drop (HT.sIx ds.length 0 lo)).take (HT.sIx ds.length ds.length hi - HT.sIx ds.length 0 lo)
def rSlT : V → Option Int → Option Int → Hp → VK → Prop := fun x lo hi H Q => ∃ ds, Tp H x (.tuple ds) ∧ ∀ z H', Same H H' → Tp H' z (.tuple (cutD ds lo hi)) → Q z H'
theorem sl_tp {X : Cx} : SlR X rSlT := by
  intro pins s σ H x v vl vu lo hi sl Q I rx hs pl pu h
  obtain ⟨ds, hx, q⟩ := h
  obtain ⟨a, xs, rfl, ha, hxs, hl⟩ := id hx.open
  refine sl_tupA pins s σ H _ v vl vu lo hi sl Q I rx hs pl pu ⟨a, xs, rfl, SqT.of ha, fun hw => ?_, fun _ p np => ?_⟩
  · have e : cutD ds lo hi = ds := by
      unfold cutD
      rw [← hl, hw.1, hw.2, Nat.sub_zero, List.drop_zero, hl]
      exact List.take_length
    exact q _ H (Same.refl H) (by rw [e]; exact hx)
  · refine q _ _ (same_new np _) (.tup upd_same ?_)
    have t := TpAll.mono (TSt.of (same_new (o := HO.tup (cutV xs lo hi)) np)) ds xs hxs
    unfold cutD
    rw [← hl]
    exact (t.drop _).take _
theorem cut_pre (ds : List PyData) (n : Nat) : cutD ds none (some ((n : Nat) : Int)) = ds.take n := by
  unfold cutD
  rw [HT.sIx_none, HT.sIx_nat, List.drop_zero, Nat.sub_zero]
  by_cases h : n ≤ ds.length
  · rw [Nat.min_eq_left h]
  · rw [Nat.min_eq_right (by omega), List.take_length, List.take_of_length_le (by omega)]
/-! ### size_of, field_place, part_place -/
section
variable {P : Program} {w : World} {K : PySem.W.Frag} {mg : Str → Option Value} {base : Heap}
theorem all_sums {B : Bk} (O : B.Ok) {f1 f2 f3 : Addr} {d1 d2 d3 : FuncData} (Dn : Df K mg "named_size" sNamed pSz f1 d1) (Dl : Df K mg "flat_size" sFlatSize pSz f2 d2) (Ds : Df K mg "sum_of_sizes" sSumSizes pSums f3 d3) (N : Nm K w mg) :
    ∀ R, FnOk P w K mg base CX0 (3 * R + 2) f2 d2 pSz (spSz B R false) ∧ FnOk P w K mg base CX0 (3 * R + 3) f3 d3 pSums (spSums B R) := fun R =>
  Nat.strongRecOn R fun R ih => by
    have G := FnOk.below (fun m (hm : m < R) => ((ih m hm).2).mono (show 3 * m + 3 ≤ 3 * R by omega))
    have G1 := ok_named O Dn N Ds G
    have G2 := ok_flatSize Dl N Dn G1
    exact ⟨G2, ok_sums Ds N Dl G2⟩
theorem all_flat {B : Bk} (O : B.Ok) {f : Addr} {fd : FuncData} (D : Df K mg "_law_flat" sFlat ["_law_book_here", "_law_kind"] f fd) (N : Nm K w mg) : ∀ R, FnOk P w K mg base CX0 (R + 1) f fd ["_law_book_here", "_law_kind"] (spFlat B R) := fun R =>
  Nat.strongRecOn R fun R ih => ok_flat O D N (FnOk.below fun m hm => (ih m hm).mono (by omega))
theorem St1.same {a : Addr} {H H' : Hp} {o : HO} (n : H a = none) (h : St1 a (L2.upd H a o) H') : Same H H' := fun b u e => h b u (by rw [upd_ne (ne_of_none e n)]; exact e) (ne_of_none e n)
theorem scSizeOf : FnScope ["book", "kind"] ["book", "kind"] (defScope sSizeOf) := ⟨rfl, rfl, rfl, by decide +kernel, rfl, by decide +kernel, by decide +kernel⟩
def spSizeOf (B : Bk) : Sp := fun vs H Q _ => ∃ b k kd, vs = [b, k] ∧ Tp H b (bkD B) ∧ Tp H k (kdD kd) ∧ Sz B kd ∧ kd.rk ≤ 6 ∧ ∀ H', Same H H' → Q (.int (size B kd)) H'
theorem ok_sizeOf {B : Bk} {k : Nat} {f g : Addr} {fd gd : FuncData} (D : Df K mg "size_of" sSizeOf ["book", "kind"] f fd) (Dl : Df K mg "flat_size" sFlatSize pSz g gd) (G : FnOk P w K mg base CX0 k g gd pSz (spSz B 6 false)) :
    FnOk P w K mg base CX0 (k + 1) f fd ["book", "kind"] (spSizeOf B) := by
  refine D.F.ok scSizeOf (fun vs H Q E h => ?_) (fun cdv A outer s H vs Q E hr h => ?_)
  · obtain ⟨b, k, kd, rfl, _⟩ := h
    rfl
  obtain ⟨b, kx, kd, rfl, hb, hk, hz, hR, q⟩ := h
  refine ⟨_, pss_one (ps_ret (cl Dl G hr (pa_cons (pv 0) (pa_cons (pv 1) (pa_cons pe_dnewT pa_nil))))), ?_⟩
  refine ⟨b, rfl, kx, rfl, fun p np => ?_⟩
  have t := TSt.of (same_new np (.dT []))
  exact ⟨b, kx, kd, p, [], rfl, Tp.mono t _ _ hb, Tp.mono t _ _ hk, hz, (fun z => by cases z), hR, upd_same, KnOk.nil B 6, by decide, fun H' kvs' pk => q H' (St1.same np pk.1)⟩
theorem scField : FnScope ["book", "n", "i"] ["book", "n", "i"] (defScope sField) := ⟨rfl, rfl, rfl, by decide +kernel, rfl, by decide +kernel, by decide +kernel⟩
theorem scPart : FnScope ["book", "n", "tag", "i"] ["book", "n", "tag", "i"] (defScope sPart) := ⟨rfl, rfl, rfl, by decide +kernel, rfl, by decide +kernel, by decide +kernel⟩
def spField (B : Bk) : Sp := fun vs H Q _ => ∃ b n i fs, vs = [b, .int ((n : Nat) : Int), .int ((i : Nat) : Int)] ∧ Tp H b (bkD B) ∧ B.rs[n]? = some fs ∧ ∀ H', Same H H' → Q (.int (sizes B (fs.take i))) H'
def spPart (B : Bk) : Sp := fun vs H Q _ => ∃ b n t i ts ps, vs = [b, .int ((n : Nat) : Int), .int ((t : Nat) : Int), .int ((i : Nat) : Int)] ∧ Tp H b (bkD B) ∧ B.vs[n]? = some ts ∧ ts[t]? = some ps ∧ ∀ H', Same H H' → Q (.int (1 + sizes B (ps.take i))) H'
theorem ok_field {B : Bk} (O : B.Ok) {k : Nat} {f g : Addr} {fd gd : FuncData} (D : Df K mg "field_place" sField ["book", "n", "i"] f fd) (Ds : Df K mg "sum_of_sizes" sSumSizes pSums g gd) (G : FnOk P w K mg base CX0 k g gd pSums (spSums B 6)) :
    FnOk P w K mg base CX0 (k + 1) f fd ["book", "n", "i"] (spField B) := by
  refine D.F.ok scField (fun vs H Q E h => ?_) (fun cdv A outer s H vs Q E hr h => ?_)
  · obtain ⟨b, n, i, fs, rfl, _⟩ := h
    rfl
  obtain ⟨b, n, i, fs, rfl, hb, e, q⟩ := h
  refine ⟨_, pss_one (ps_ret (cl Ds G hr (pa_cons (pv 0) (pa_cons (pe_slice sl_tp (pe_ix ix_item (pe_ix ix_item (pv 0) pe_int (fun _ _ => rfl)) (pv 1) (fun _ _ => rfl)) po_none (po_some (pv 2))) (pa_cons pe_dnewT pa_nil))))), ?_⟩
  have hfs := O.rf n fs e
  refine ⟨b, rfl, b, rfl, _, 0, _, hb, rfl, rfl, fun z hz => ⟨_, rfl, _, n, _, hz, rfl, rs_at e, fun z2 hz2 => ⟨_, rfl, _, rfl, _, hz2, fun z3 H3 s3 hz3 => fun p np => ?_⟩⟩⟩
  rw [cut_pre, ← List.map_take] at hz3
  have t := TSt.of (same_new np (.dT []))
  exact ⟨b, z3, fs.take i, p, [], rfl, Tp.mono t _ _ (Tp.mono (TSt.of s3) _ _ hb), Tp.mono t _ _ hz3, fun kf hkf => ⟨(hfs.2 kf (List.mem_of_mem_take hkf)).fits, rk_le O (hfs.2 kf (List.mem_of_mem_take hkf)).fits⟩, by rw [List.length_take]; omega, upd_same, KnOk.nil B 6,
    by
      have h1 : (fs.take i).length ≤ 3 := by rw [List.length_take]; omega
      have h2 : (fs.take i).length * 8 ^ 6 ≤ 3 * 8 ^ 6 := Nat.mul_le_mul_right _ h1
      have h3 : 3 * 8 ^ 6 ≤ CAP := by decide
      simp only [List.length_nil]
      omega, fun H' kvs' pk => q H' (s3.trans (St1.same np pk.1))⟩
theorem ok_part {B : Bk} (O : B.Ok) {k : Nat} {f g : Addr} {fd gd : FuncData} (D : Df K mg "part_place" sPart ["book", "n", "tag", "i"] f fd) (Ds : Df K mg "sum_of_sizes" sSumSizes pSums g gd) (G : FnOk P w K mg base CX0 k g gd pSums (spSums B 6)) :
    FnOk P w K mg base CX0 (k + 1) f fd ["book", "n", "tag", "i"] (spPart B) := by
  refine D.F.ok scPart (fun vs H Q E h => ?_) (fun cdv A outer s H vs Q E hr h => ?_)
  · obtain ⟨b, n, t, i, ts, ps, rfl, _⟩ := h
    rfl
  obtain ⟨b, n, t, i, ts, ps, rfl, hb, e, ep, q⟩ := h
  refine ⟨_, pss_one (ps_ret (pe_op op_add pe_int (cl Ds G hr (pa_cons (pv 0) (pa_cons (pe_slice sl_tp (pe_ix ix_item (pe_ix ix_item (pe_ix ix_item (pv 0) pe_int (fun _ _ => rfl)) (pv 1) (fun _ _ => rfl)) (pv 2) (fun _ _ => rfl)) po_none (po_some (pv 3))) (pa_cons pe_dnewT pa_nil)))))), ?_⟩
  have hts := O.vf n ts e
  have hps := hts.2.2 ps (List.mem_of_getElem? ep)
  refine ⟨b, rfl, b, rfl, _, 1, _, hb, rfl, rfl, fun z hz => ⟨_, rfl, _, n, _, hz, rfl, vs_at e, fun z2 hz2 => ⟨_, rfl, _, t, _, hz2, rfl, ts_at ep, fun z2' hz2' => ⟨_, rfl, _, rfl, _, hz2', fun z3 H3 s3 hz3 => fun p np => ?_⟩⟩⟩⟩
  rw [cut_pre, ← List.map_take] at hz3
  have t := TSt.of (same_new np (.dT []))
  exact ⟨b, z3, ps.take i, p, [], rfl, Tp.mono t _ _ (Tp.mono (TSt.of s3) _ _ hb), Tp.mono t _ _ hz3, fun kf hkf => ⟨(hps.2 kf (List.mem_of_mem_take hkf)).fits, rk_le O (hps.2 kf (List.mem_of_mem_take hkf)).fits⟩, by rw [List.length_take]; omega, upd_same, KnOk.nil B 6,
    by
      have h1 : (ps.take i).length ≤ 3 := by rw [List.length_take]; omega
      have h2 : (ps.take i).length * 8 ^ 6 ≤ 3 * 8 ^ 6 := Nat.mul_le_mul_right _ h1
      have h3 : 3 * 8 ^ 6 ≤ CAP := by decide
      simp only [List.length_nil]
      omega, fun H' kvs' pk => ⟨_, _, rfl, rfl, q H' (s3.trans (St1.same np pk.1))⟩⟩
end
end My
set_option maxRecDepth 100000
set_option maxHeartbeats 4000000
namespace My
open PySem L2
theorem for_range0 {n : Nat} {g : TG} {tb : TS} {D : Ends} {σ : L2.St} {H : Hp} (Pv : Nat → L2.St → Hp → Prop) (h0 : Pv 0 σ H)
    (hs : ∀ i σ H, i < n → Pv i σ H → g (.int ((i : Nat) : Int)) σ H fun σ2 H2 => tb { D with nx := Pv (i + 1), ct := Pv (i + 1), bk := D.nx } σ2 H2) (hd : ∀ σ H, Pv n σ H → D.nx σ H) :
    ∃ W : Nat → Nat → L2.St → Hp → Prop, (∃ m, W 0 m σ H) ∧ ∀ i m σ H, W i m σ H →
      ((Itr 0 n).stop i H ∧ D.nx σ H) ∨ ((Itr 0 n).go i H ∧ ∃ N : L2.St → Hp → Prop, (∀ σ' H', N σ' H' → ∃ m', m' < m ∧ W (i + 1) m' σ' H') ∧ ∀ x H', (Itr 0 n).yld i H x H' → g x σ H' fun σ2 H2 => tb { D with nx := N, ct := N, bk := D.nx } σ2 H2) :=
  for_range (lo := 0) (n := n) Pv h0 (fun i σ H hi p => by rw [Int.zero_add]; exact hs i σ H hi p) hd
theorem lc_range0 {n : Nat} {g : TG} {tt : TT} {te : TE} {vs : List Nat} {σ : L2.St} {H1 : Hp} {D : Addr} {Qd : Hp → Prop} (Pv : Nat → Hp → Prop) (h0 : Pv 0 (upd H1 D (.lst [])))
    (hs : ∀ i H, i < n → Pv i H → g (.int ((i : Nat) : Int)) (wipe σ vs) H fun σ2 H2 => wipe σ2 vs = wipe σ vs ∧ tt σ2 H2 fun b H3 =>
      if b = true then te σ2 H3 fun y H4 => ∃ acc, H4 D = some (.lst acc) ∧ acc.length < sizeLine ∧ Pv (i + 1) (upd H4 D (.lst (acc ++ [y]))) else Pv (i + 1) H3) (hd : ∀ H, Pv n H → Qd H) :
    ∃ W : Nat → Nat → Hp → Prop, (∃ m, W 0 m (upd H1 D (.lst []))) ∧ ∀ i m H, W i m H →
      ((Itr 0 n).stop i H ∧ Qd H) ∨ ((Itr 0 n).go i H ∧ ∃ Nx : Hp → Prop, (∀ H', Nx H' → ∃ m', m' < m ∧ W (i + 1) m' H') ∧ ∀ x H', (Itr 0 n).yld i H x H' → g x (wipe σ vs) H' fun σ2 H2 => wipe σ2 vs = wipe σ vs ∧ tt σ2 H2 fun b H3 =>
        if b = true then te σ2 H3 fun y H4 => ∃ acc, H4 D = some (.lst acc) ∧ acc.length < sizeLine ∧ Nx (upd H4 D (.lst (acc ++ [y]))) else Nx H3) :=
  lc_range (lo := 0) (n := n) Pv h0 (fun i H hi p => by rw [Int.zero_add]; exact hs i H hi p) hd
theorem len62 {n : Nat} (h : n ≤ 1000) : -(2 ^ 62) ≤ ((n : Nat) : Int) ∧ ((n : Nat) : Int) < 2 ^ 62 := by omega
theorem lc_flats {K : PySem.W.Frag} {B : Bk} {H0 : Hp} {a : Addr} {xs : List V} {b : V} {ks : List Kd} {σ : L2.St} {j : Nat} {E : XK} {Qd : Addr → Hp → Prop} (ha : H0 a = some (.tup xs)) (hx : TpAll H0 xs (ks.map kdD)) (hb : Tp H0 b (bkD B))
    (hks : ∀ kd ∈ ks, kd.fits B.rs.length B.vs.length ∧ kd.rk ≤ 6) (hl : ks.length ≤ 1000) (s0 : ∀ x, ((wipe σ [j]).set j (some x))[0]? = some (some b)) (sj : ∀ x, ((wipe σ [j]).set j (some x))[j]? = some (some x)) (sw : ∀ x, wipe ((wipe σ [j]).set j (some x)) [j] = wipe σ [j])
    (q : ∀ D H', Same H0 H' → H' D = some (.lst ((ks.map (size B)).map V.int)) → Qd D H') :
    ∀ D, H0 D = none → ∃ W : Nat → Nat → Hp → Prop, (∃ m, W 0 m (upd H0 D (.lst []))) ∧ ∀ i m H, W i m H →
      ((Itt K a).stop i H ∧ Qd D H) ∨ ((Itt K a).go i H ∧ ∃ Nx : Hp → Prop, (∀ H', Nx H' → ∃ m', m' < m ∧ W (i + 1) m' H') ∧ ∀ x H', (Itt K a).yld i H x H' → gName j x (wipe σ [j]) H' fun σ2 H2 => wipe σ2 [j] = wipe σ [j] ∧ tYes σ2 H2 fun b H3 =>
        if b = true then tCall (spFlat B 6) [] E (tCons (tVar 0) (tCons (tVar j) tNil)) σ2 H3 fun y H4 => ∃ acc, H4 D = some (.lst acc) ∧ acc.length < sizeLine ∧ Nx (upd H4 D (.lst (acc ++ [y]))) else Nx H3) := by
  have hlx := hx.length
  rw [List.length_map] at hlx
  refine fun Dl nD => lc_tup (K := K) (a := a) (xs := xs) (PvF H0 Dl ((ks.map (size B)).map V.int)) (pvf_0 nD) (fun i H' _ p => SqT.of (p.1 _ _ ha)) (fun i x H' hx' p => ?_) (fun H' p => ?_)
  · obtain ⟨d, hd, hxd⟩ := hx.at' hx'
    obtain ⟨kf, hkf, rfl⟩ : ∃ kf, ks[i]? = some kf ∧ kdD kf = d := by
      rw [List.getElem?_map] at hd
      exact Option.map_eq_some_iff.mp hd
    have hg := hks kf (List.mem_of_getElem? hkf)
    refine ⟨sw x, b, s0 x, x, sj x, b, x, kf, rfl, Tp.mono (TSt.of p.1) _ _ hb, Tp.mono (TSt.of p.1) _ _ hxd, hg.1, hg.2, fun H4 s4 => pvf_step p nD s4 (by rw [List.getElem?_map, List.getElem?_map, hkf]; rfl) ?_⟩
    rw [List.length_map, List.length_map]
    exact small1000 hl
  · obtain ⟨p1, p2⟩ := pvf_end p (by rw [List.length_map, List.length_map]; omega)
    exact q Dl H' p1 p2
section
variable {P : Program} {w : World} {K : PySem.W.Frag} {mg : Str → Option Value} {base : Heap}
abbrev nPl : List Str := ["_law_book_here", "_law_n", "_law_i", "_law_tag", "_law_parts", "_law_one"]
theorem scPl : FnScope nPl ["_law_book_here"] (defScope sPlaces) := ⟨rfl, rfl, rfl, by decide +kernel, rfl, by decide +kernel, by decide +kernel⟩
def spPlaces (B : Bk) : Sp := fun vs H Q _ => ∃ b, vs = [b] ∧ Tp H b (bkD B) ∧ ∀ H', Same H H' → Q (.bl true) H'
theorem ok_places {B : Bk} (O : B.Ok) {k : Nat} {f f1 f2 f3 : Addr} {fd d1 d2 d3 : FuncData} (D : Df K mg "_law_places_right" sPlaces ["_law_book_here"] f fd) (N : Nm K w mg)
    (D1 : Df K mg "_law_flat" sFlat ["_law_book_here", "_law_kind"] f1 d1) (G1 : FnOk P w K mg base CX0 k f1 d1 ["_law_book_here", "_law_kind"] (spFlat B 6))
    (D2 : Df K mg "field_place" sField ["book", "n", "i"] f2 d2) (G2 : FnOk P w K mg base CX0 k f2 d2 ["book", "n", "i"] (spField B))
    (D3 : Df K mg "part_place" sPart ["book", "n", "tag", "i"] f3 d3) (G3 : FnOk P w K mg base CX0 k f3 d3 ["book", "n", "tag", "i"] (spPart B)) :
    FnOk P w K mg base CX0 (k + 1) f fd ["_law_book_here"] (spPlaces B) := by
  refine D.F.ok scPl (fun vs H Q E h => ?_) (fun cdv A outer s H vs Q E hr h => ?_)
  · obtain ⟨b, rfl, _⟩ := h
    rfl
  obtain ⟨b, rfl, hb, q⟩ := h
  refine ⟨_, pss_cons (ps_for PassesOwn.never rfl (pi_range1 rfl N.range (pa_cons (pe_len1 N (pe_ix ix_item (pv 0) pe_int (fun _ _ => rfl))) pa_nil)) (pg_name (i := 1) scPl.nd rfl (.inl rfl))
      (pss_one (ps_for PassesOwn.never rfl (pi_range1 rfl N.range (pa_cons (pe_len1 N (pe_ix ix_item (pe_ix ix_item (pv 0) pe_int (fun _ _ => rfl)) (pv 1) (fun _ _ => rfl))) pa_nil)) (pg_name (i := 2) scPl.nd rfl (.inl rfl))
        (pss_one (ps_if (pt_cmpR op_neI (cl D2 G2 hr (pa_cons (pv 0) (pa_cons (pv 1) (pa_cons (pv 2) pa_nil))))
          (pe_callB (cr_sum rfl) (by rfl) N.sum boot_sum (pa_cons (pe_lc (own := [("_law_one", 5)]) (g := gName 5) (tt := tYes) rfl scPl.nd
            (pi_tup (pe_slice sl_tp (pe_ix ix_item (pe_ix ix_item (pv 0) pe_int (fun _ _ => rfl)) (pv 1) (fun _ _ => rfl)) po_none (po_some (pv 2))))
            (blkOk_by (own := [("_law_one", 5)]) (N := nPl) (sc := defScope sPlaces) (by decide +kernel))
            (fun _ _ _ _ _ => pg_name (i := 5) scPl.nd rfl (Or.inl rfl)) (fun _ _ _ _ _ => pts_nil)
            (fun _ _ _ _ _ => cl D1 G1 hr (pa_cons (pv 0) (pa_cons (pv 5) pa_nil)))) pa_nil)) (nomark _)) (pss_one (ps_ret pe_bl)) pss_nil)))))
    (pss_cons (ps_for PassesOwn.never rfl (pi_range1 rfl N.range (pa_cons (pe_len1 N (pe_ix ix_item (pv 0) pe_int (fun _ _ => rfl))) pa_nil)) (pg_name (i := 1) scPl.nd rfl (.inl rfl))
      (pss_one (ps_for PassesOwn.never rfl (pi_range1 rfl N.range (pa_cons (pe_len1 N (pe_ix ix_item (pe_ix ix_item (pv 0) pe_int (fun _ _ => rfl)) (pv 1) (fun _ _ => rfl))) pa_nil)) (pg_name (i := 3) scPl.nd rfl (.inl rfl))
        (pss_cons (ps_set (i := 4) scPl.nd rfl (.inl rfl) (pe_ix ix_item (pe_ix ix_item (pe_ix ix_item (pv 0) pe_int (fun _ _ => rfl)) (pv 1) (fun _ _ => rfl)) (pv 3) (fun _ _ => rfl)))
        (pss_one (ps_for PassesOwn.never rfl (pi_range1 rfl N.range (pa_cons (pe_len1 N (pv 4)) pa_nil)) (pg_name (i := 2) scPl.nd rfl (.inl rfl))
          (pss_one (ps_if (pt_cmpR op_neI (cl D3 G3 hr (pa_cons (pv 0) (pa_cons (pv 1) (pa_cons (pv 3) (pa_cons (pv 2) pa_nil)))))
            (pe_op op_add pe_int (pe_callB (cr_sum rfl) (by rfl) N.sum boot_sum (pa_cons (pe_lc (own := [("_law_one", 5)]) (g := gName 5) (tt := tYes) rfl scPl.nd
              (pi_tup (pe_slice sl_tp (pv 4) po_none (po_some (pv 2))))
              (blkOk_by (own := [("_law_one", 5)]) (N := nPl) (sc := defScope sPlaces) (by decide +kernel))
              (fun _ _ _ _ _ => pg_name (i := 5) scPl.nd rfl (Or.inl rfl)) (fun _ _ _ _ _ => pts_nil)
              (fun _ _ _ _ _ => cl D1 G1 hr (pa_cons (pv 0) (pa_cons (pv 5) pa_nil)))) pa_nil))) (nomark _)) (pss_one (ps_ret pe_bl)) pss_nil))))))))
    (pss_one (ps_ret pe_bl))), ?_⟩
  refine ⟨b, rfl, _, 0, _, hb, rfl, rfl, fun z hz => ⟨z, _, rfl, hz, _, rfl, (len62 (by rw [List.length_map]; have := O.r3; omega)).1, (len62 (by rw [List.length_map]; have := O.r3; omega)).2,
    for_range0 (fun i σ H' => ∃ x1 x2, σ = [some b, x1, x2, none, none, none] ∧ Same H H') ⟨none, none, rfl, Same.refl H⟩ (fun i σ H' hi ⟨x1, x2, e, s1⟩ => ?_) (fun σ H' ⟨x1, x2, e, s1⟩ => ?_)⟩⟩
  · subst e
    have hi' : i < B.rs.length := by
      have h2 : i < ((B.rs.map ksD).length : Int).toNat := hi
      rw [List.length_map] at h2
      omega
    obtain ⟨fs, e⟩ : ∃ fs, B.rs[i]? = some fs := ⟨_, List.getElem?_eq_getElem hi'⟩
    have hfs := O.rf i fs e
    have hb1 := Tp.mono (TSt.of s1) _ _ hb
    refine ⟨b, rfl, _, 0, _, hb1, rfl, rfl, fun z hz => ⟨_, rfl, _, i, _, hz, rfl, rs_at e, fun z2 hz2 => ⟨z2, _, rfl, hz2, _, rfl, (len62 (by rw [List.length_map]; omega)).1, (len62 (by rw [List.length_map]; omega)).2,
      for_range0 (fun _ σ H' => ∃ x2, σ = [some b, some (.int ((i : Nat) : Int)), x2, none, none, none] ∧ Same H H') ⟨x2, rfl, s1⟩ (fun j σ H2 hj ⟨y2, e2, s2⟩ => ?_) (fun σ H2 ⟨y2, e2, s2⟩ => ?_)⟩⟩⟩
    · subst e2
      have hb2 := Tp.mono (TSt.of s2) _ _ hb
      refine ⟨b, rfl, _, rfl, _, rfl, b, i, j, fs, rfl, hb2, e, fun H3 s3 => ?_⟩
      have hb3 := Tp.mono (TSt.of s3) _ _ hb2
      refine ⟨b, rfl, _, 0, _, hb3, rfl, rfl, fun z hz => ⟨_, rfl, _, i, _, hz, rfl, rs_at e, fun z2 hz2 => ⟨_, rfl, _, rfl, _, hz2, fun z3 H4 s4 hz3 => ?_⟩⟩⟩
      rw [cut_pre, ← List.map_take] at hz3
      obtain ⟨a, xs, rfl, ha, hx, hl⟩ := hz3.open
      refine ⟨a, rfl, ⟨xs, SqT.of ha⟩, lc_flats (B := B) (σ := [some b, some (.int ((i : Nat) : Int)), some (.int ((j : Nat) : Int)), none, none, none]) (j := 5) (ks := fs.take j) ha hx (Tp.mono (TSt.of s4) _ _ hb3) (fun kf hkf => ⟨(hfs.2 kf (List.mem_of_mem_take hkf)).fits, rk_le O (hfs.2 kf (List.mem_of_mem_take hkf)).fits⟩) (by rw [List.length_take]; omega) (by exact fun _ => rfl) (by exact fun _ => rfl) (by exact fun _ => rfl) (fun Dl H5 s5 hD => ?_)⟩
      refine ⟨Dl, _, rfl, SqL.of hD, _, _, rfl, rfl, _, rfl, ite2 (fun c => ?_) (fun _ => ?_)⟩
      · have c' : (!decide (sizes B (fs.take j) = sizes B (fs.take j))) = true := c
        simp at c'
      · exact ⟨_, rfl, (((s2.trans s3).trans s4).trans s5)⟩
    · subst e2
      exact ⟨_, _, rfl, s2⟩
  · subst e
    have hb1 := Tp.mono (TSt.of s1) _ _ hb
    refine ⟨b, rfl, _, 1, _, hb1, rfl, rfl, fun z hz => ⟨z, _, rfl, hz, _, rfl, (len62 (by rw [List.length_map]; have := O.v3; omega)).1, (len62 (by rw [List.length_map]; have := O.v3; omega)).2,
      for_range0 (fun i σ H' => ∃ x1 x2 x3 x4, σ = [some b, x1, x2, x3, x4, none] ∧ Same H H') ⟨_, _, _, _, rfl, s1⟩ (fun i σ H' hi ⟨x1, x2, x3, x4, e, s1⟩ => ?_) (fun σ H' ⟨x1, x2, x3, x4, e, s1⟩ => q H' s1)⟩⟩
    subst e
    have hi' : i < B.vs.length := by
      have h2 : i < ((B.vs.map tsD).length : Int).toNat := hi
      rw [List.length_map] at h2
      omega
    obtain ⟨ts, e⟩ : ∃ ts, B.vs[i]? = some ts := ⟨_, List.getElem?_eq_getElem hi'⟩
    have hts := O.vf i ts e
    have hb1 := Tp.mono (TSt.of s1) _ _ hb
    refine ⟨b, rfl, _, 1, _, hb1, rfl, rfl, fun z hz => ⟨_, rfl, _, i, _, hz, rfl, vs_at e, fun z2 hz2 => ⟨z2, _, rfl, hz2, _, rfl, (len62 (by rw [List.length_map]; omega)).1, (len62 (by rw [List.length_map]; omega)).2,
      for_range0 (fun _ σ H' => ∃ x2 x3 x4, σ = [some b, some (.int ((i : Nat) : Int)), x2, x3, x4, none] ∧ Same H H') ⟨_, _, _, rfl, s1⟩ (fun t σ H2 ht ⟨y2, y3, y4, e2, s2⟩ => ?_) (fun σ H2 ⟨y2, y3, y4, e2, s2⟩ => ?_)⟩⟩⟩
    · subst e2
      have ht' : t < ts.length := by
        have h2 : t < ((ts.map ksD).length : Int).toNat := ht
        rw [List.length_map] at h2
        omega
      obtain ⟨ps, ep⟩ : ∃ ps, ts[t]? = some ps := ⟨_, List.getElem?_eq_getElem ht'⟩
      have hps := hts.2.2 ps (List.mem_of_getElem? ep)
      have hb2 := Tp.mono (TSt.of s2) _ _ hb
      refine ⟨b, rfl, _, 1, _, hb2, rfl, rfl, fun z hz => ⟨_, rfl, _, i, _, hz, rfl, vs_at e, fun z2 hz2 => ⟨_, rfl, _, t, _, hz2, rfl, ts_at ep, fun z3 hz3 => ?_⟩⟩⟩
      refine ⟨z3, rfl, z3, _, rfl, hz3, _, rfl, (len62 (by rw [List.length_map]; omega)).1, (len62 (by rw [List.length_map]; omega)).2,
        for_range0 (fun _ σ H' => ∃ x2, σ = [some b, some (.int ((i : Nat) : Int)), x2, some (.int ((t : Nat) : Int)), some z3, none] ∧ Same H2 H') ⟨_, rfl, Same.refl _⟩ (fun j σ H3 hj ⟨w2, e3, s3⟩ => ?_) (fun σ H3 ⟨w2, e3, s3⟩ => ?_)⟩
      · subst e3
        have hb3 := Tp.mono (TSt.of s3) _ _ hb2
        refine ⟨b, rfl, _, rfl, _, rfl, _, rfl, b, i, t, j, ts, ps, rfl, hb3, e, ep, fun H4 s4 => ?_⟩
        have hz4 := Tp.mono (TSt.of (s3.trans s4)) _ _ hz3
        refine ⟨z3, rfl, _, rfl, _, rfl, _, hz4, fun z5 H5 s5 hz5 => ?_⟩
        rw [cut_pre, ← List.map_take] at hz5
        obtain ⟨a, xs, rfl, ha, hx, hl⟩ := hz5.open
        refine ⟨a, rfl, ⟨xs, SqT.of ha⟩, ?_⟩
        refine lc_flats (K := K) (B := B) (σ := [some b, some (.int ((i : Nat) : Int)), some (.int ((j : Nat) : Int)), some (.int ((t : Nat) : Int)), some z3, none]) (j := 5) (ks := ps.take j) ha hx (Tp.mono (TSt.of (s4.trans s5)) _ _ hb3) (fun kf hkf => ⟨(hps.2 kf (List.mem_of_mem_take hkf)).fits, rk_le O (hps.2 kf (List.mem_of_mem_take hkf)).fits⟩) (by rw [List.length_take]; omega) (by exact fun _ => rfl) (by exact fun _ => rfl) (by exact fun _ => rfl) (fun Dl H6 s6 hD => ?_)
        refine ⟨Dl, _, rfl, SqL.of hD, _, _, rfl, rfl, _, _, rfl, rfl, _, rfl, ite2 (fun c => ?_) (fun _ => ?_)⟩
        · have c' : (!decide (1 + sizes B (ps.take j) = 1 + sizes B (ps.take j))) = true := c
          simp at c'
        · exact ⟨_, rfl, (((s3.trans s4).trans s5).trans s6)⟩
      · subst e3
        exact ⟨_, _, _, rfl, s2.trans s3⟩
    · subst e2
      exact ⟨_, _, _, _, rfl, s2⟩
end
end My
set_option maxRecDepth 100000
set_option maxHeartbeats 4000000
namespace My
open PySem L2
theorem walk_zipT {K : PySem.W.Frag} {a b : Addr} {xs ys : List V} {n : Nat} (hn : n = xs.length) (hl : xs.length = ys.length) : Walk (RZ.ItzT K a b) n (fun H => SqT K H a xs ∧ SqT K H b ys) (YPair (fun i => xs[i]?) (fun i => ys[i]?)) := by
  subst hn
  refine ⟨fun i _ hi q => ?_, fun _ q => ⟨xs, ys, q.1, q.2, by omega⟩, fun i H v H' _ q y => ?_⟩
  · have h2 : i < ys.length := by omega
    exact ⟨xs, ys, xs[i], ys[i], q.1, q.2, by simp [hi], by simp [h2]⟩
  · obtain ⟨T, x, z, h1, h2, h3, h4, h5⟩ := y
    exact ⟨T, x, z, h1, h2, h3, h4 xs q.1, h5 ys q.2⟩
section
variable {X : Cx} {K : PySem.W.Frag}
theorem pg_tupK {es : List Expr} {k : Nat} {pos : Pos} {t : TGs} {n : Nat} (hk : X.K = K) (hc : X.calm = true) (h : PGs X es t) (hn : (assignEach es X.env).length = n := by rfl) (hst : (assignEach es X.env).findIdx? (·.1) = none := by rfl) : PG X (.Tuple es k pos) (gTup K n t) := by
  subst hk; exact pg_tup hc h hn hst
end
/-! ### the data that is_value tells -/
theorem on1_ne {f : PyData → Bool} {l : List PyData} (h : l.length ≠ 1) : on1 f (some l) = false := by
  match l, h with
  | [], _ => rfl
  | [_], h => exact absurd rfl h
  | _ :: _ :: _, _ => rfl
theorem on2_ne {f : PyData → PyData → Bool} {l : List PyData} (h : l.length ≠ 2) : on2 f (some l) = false := by
  match l, h with
  | [], _ => rfl
  | [_], _ => rfl
  | [_, _], h => exact absurd rfl h
  | _ :: _ :: _ :: _, _ => rfl
theorem tl_no {w : Str} {d : PyData} (h : wrdT d = false) : tl w d = none := by
  cases d with
  | tuple ds =>
    cases ds with
    | nil => rfl
    | cons x r => cases x <;> first | rfl | cases h
  | _ => rfl
theorem tl_ne {w s : Str} {r : List PyData} (h : ¬ s = w) : tl w (.tuple (.str s :: r)) = none := if_neg h
theorem tl_eq {w : Str} {r : List PyData} : tl w (.tuple (.str w :: r)) = some r := if_pos rfl
theorem isVF_none {B : Bk} {n : Nat} {kd : Kd} {d : PyData} (h1 : ¬ kd = .int) (h2 : ¬ kd = .bool) (h : tl kd.hd d = none) : isVF B n kd d = false := by
  cases kd with
  | int => exact absurd rfl h1
  | bool => exact absurd rfl h2
  | box k => cases n with
    | zero => rfl
    | succ n => show on1 _ (tl "box" d) = false; rw [show tl "box" d = none from h]; rfl
  | vec k => cases n with
    | zero => rfl
    | succ n => show on1 _ (tl "vec" d) = false; rw [show tl "vec" d = none from h]; rfl
  | rcd k => cases n with
    | zero => rfl
    | succ n => show on1 _ (tl "record" d) = false; rw [show tl "record" d = none from h]; rfl
  | vrt k => cases n with
    | zero => rfl
    | succ n => show on2 _ (tl "variant" d) = false; rw [show tl "variant" d = none from h]; rfl
  | rf k => cases n <;> rfl
  | mt k => cases n <;> rfl
theorem isVF_int {B : Bk} {n : Nat} {d : PyData} : isVF B n .int d = isNum d 4294967296 := by cases n <;> rfl
theorem isVF_bool {B : Bk} {n : Nat} {d : PyData} : isVF B n .bool d = isBl d := by cases n <;> rfl
theorem wrdT_ex {d : PyData} (h : wrdT d = true) : ∃ s r, d = .tuple (.str s :: r) := by
  cases d with
  | tuple ds =>
    cases ds with
    | nil => cases h
    | cons x r => cases x <;> first | exact ⟨_, _, rfl⟩ | cases h
  | _ => cases h
theorem gd_tup {w n : Nat} {ds : List PyData} (h : gd w n (.tuple ds)) : ∃ m, n = m + 1 ∧ ds.length ≤ w ∧ ∀ d ∈ ds, gd w m d := by
  cases n with
  | zero => exact h.elim
  | succ m => exact ⟨m, rfl, h.1, h.2⟩
theorem gd_get {w n : Nat} {ds : List PyData} {i : Nat} {d : PyData} (h : ∀ d ∈ ds, gd w n d) (e : ds[i]? = some d) : gd w n d := h d (List.mem_of_getElem? e)
def spIsV (B : Bk) (W n : Nat) : Sp := fun vs H Q _ => ∃ b k v kd d, vs = [b, k, v] ∧ Tp H b (bkD B) ∧ Tp H k (kdD kd) ∧ kd.fits B.rs.length B.vs.length ∧ Tp H v d ∧ gd W n d ∧ ∀ H', Same H H' → Q (.bl (isVF B n kd d)) H'
def spAreV (B : Bk) (W n : Nat) : Sp := fun vs H Q _ => ∃ b k v ks d, vs = [b, k, v] ∧ Tp H b (bkD B) ∧ Tp H k (.tuple (ks.map kdD)) ∧ (∀ kd ∈ ks, kd.fits B.rs.length B.vs.length) ∧ Tp H v d ∧ gd W (n + 1) d ∧ ∀ H', Same H H' → Q (.bl (onT d fun ds => allF (isVF B n) ks ds)) H'
section
variable {P : Program} {w : World} {K : PySem.W.Frag} {mg : Str → Option Value} {base : Heap}
abbrev pAre : List Str := ["book", "kinds", "thing"]
abbrev pIs : List Str := ["book", "kind", "thing"]
abbrev nAre : List Str := ["book", "kinds", "thing", "kind", "one"]
abbrev nIs : List Str := ["book", "kind", "thing", "one"]
theorem scAre : FnScope nAre pAre (defScope sAreVals) := ⟨rfl, rfl, rfl, by decide +kernel, rfl, by decide +kernel, by decide +kernel⟩
theorem scIs : FnScope nIs pIs (defScope sIsVal) := ⟨rfl, rfl, rfl, by decide +kernel, rfl, by decide +kernel, by decide +kernel⟩
theorem ok_areVals {B : Bk} {W n k : Nat} (hW : W ≤ 100) {f g : Addr} {fd gd' : FuncData} (D : Df K mg "are_values" sAreVals pAre f fd) (N : Nm K w mg) (Di : Df K mg "is_value" sIsVal pIs g gd')
    (G : FnOk P w K mg base CX0 k g gd' pIs (spIsV B W n)) : FnOk P w K mg base CX0 (k + 1) f fd pAre (spAreV B W n) := by
  refine D.F.ok scAre (fun vs H Q E h => ?_) (fun cdv A outer s H vs Q E hr h => ?_)
  · obtain ⟨b, k, v, ks, d, rfl, _⟩ := h
    rfl
  obtain ⟨b, kx, v, ks, d, rfl, hb, hk, hf, hv, hg, q⟩ := h
  refine ⟨_, pss_cons (ps_if (PW.pt (pw_or (pt_not (pt_val (pe_isTup N (pv 2)))) (pw_or1 (pt_cmpR op_neI (pe_len1 N (pv 2)) (pe_len1 N (pv 1)) (nomark _))))) (pss_one (ps_ret pe_bl)) pss_nil)
    (pss_one (ps_ret (pe_callB (cr_all rfl) (by rfl) N.all boot_all (pa_cons (pe_lc (own := [("kind", 3), ("one", 4)]) (g := gTup K 2 (gCons (gName 3) (gCons (gName 4) gNil))) (tt := tYes) rfl scAre.nd
      (RZ.pi_zipA (by rfl) N.zip (pa_cons (pv 1) (pa_cons (pv 2) pa_nil)))
      (blkOk_by (own := [("kind", 3), ("one", 4)]) (N := nAre) (sc := defScope sAreVals) (by decide +kernel))
      (fun _ _ _ _ _ => pg_tupK (K := K) rfl rfl (pgs_cons (pg_name (i := 3) scAre.nd rfl (Or.inl rfl)) (pgs_cons (pg_name (i := 4) scAre.nd rfl (Or.inl rfl)) pgs_nil))) (fun _ _ _ _ _ => pts_nil)
      (fun _ _ _ _ _ => cl Di G hr (pa_cons (pv 0) (pa_cons (pv 3) (pa_cons (pv 4) pa_nil))))) pa_nil)))), ?_⟩
  refine ⟨v, rfl, v, d, rfl, hv, _, rfl, ite2 (fun c => ?_) (fun c => ?_)⟩
  · refine iteT ?_
    have e : onT d (fun ds => allF (isVF B n) ks ds) = false := by
      cases d with
      | tuple ds => cases c
      | _ => rfl
    rw [e] at q
    exact q H (Same.refl H)
  obtain ⟨ds, rfl⟩ : ∃ ds, d = .tuple ds := by
    cases d with
    | tuple ds => exact ⟨ds, rfl⟩
    | _ => exact absurd rfl c
  refine ⟨v, rfl, v, ds, rfl, hv, kx, rfl, kx, _, rfl, hk, _, _, rfl, rfl, _, rfl, ite2 (fun c2 => ?_) (fun c2 => ?_)⟩
  · have c2' : (!decide (((ds.length : Nat) : Int) = (((ks.map kdD).length : Nat) : Int))) = true := c2
    rw [List.length_map] at c2'
    have e : onT (.tuple ds) (fun ds => allF (isVF B n) ks ds) = false := by
      show (decide (ks.length = ds.length) && _) = false
      rw [decide_eq_false (fun z => by rw [z] at c2'; simp at c2'), Bool.false_and]
    rw [e] at q
    exact q H (Same.refl H)
  · have c2' : ¬ (!decide (((ds.length : Nat) : Int) = (((ks.map kdD).length : Nat) : Int))) = true := c2
    rw [List.length_map] at c2'
    have hl : ks.length = ds.length := by
      by_cases z : ks.length = ds.length
      · exact z
      · exact absurd (by rw [decide_eq_false (fun y => z (by omega))]; rfl) c2'
    obtain ⟨m, hm, hw, hds⟩ := gd_tup hg
    obtain rfl : n = m := by omega
    obtain ⟨a1, xs, rfl, ha1, hxs, hlx⟩ := hk.open
    obtain ⟨a2, ys, rfl, ha2, hys, hly⟩ := hv.open
    rw [List.length_map] at hlx
    have hrl : (((ks.zip ds).map fun p => isVF B n p.1 p.2).map V.bl).length = ks.length := by rw [List.length_map, List.length_map, List.length_zip]; omega
    refine ⟨_, rfl, _, rfl, a1, a2, xs, ys, rfl, .inr ⟨SqT.of ha1, SqT.of ha2, fun Dl nD => ?_⟩⟩
    refine lc_it (walk_zipT (K := K) (a := a1) (b := a2) (xs := xs) (ys := ys) rfl (by omega)) (PvF H Dl (((ks.zip ds).map fun p => isVF B n p.1 p.2).map V.bl)) (pvf_0 nD) (fun i H' _ p => ⟨SqT.of (p.1 _ _ ha1), SqT.of (p.1 _ _ ha2)⟩) (fun i v H1 H2 hi p y => ?_) (fun H' p => ?_)
    · obtain ⟨T, x, z, rfl, nT, rfl, ex, ez⟩ := y
      obtain ⟨d1, hd1, hx1⟩ := hxs.at' ex
      obtain ⟨d2, hd2, hz1⟩ := hys.at' ez
      obtain ⟨kf, hkf, rfl⟩ : ∃ kf, ks[i]? = some kf ∧ kdD kf = d1 := by
        rw [List.getElem?_map] at hd1
        exact Option.map_eq_some_iff.mp hd1
      have sT : Same H1 (upd H1 T (.tup [x, z])) := same_new nT _
      have s2 := p.1.trans sT
      refine ⟨T, [x, z], rfl, SqT.of upd_same, rfl, x, [z], rfl, z, [], rfl, rfl, rfl, ?_⟩
      refine ⟨b, rfl, x, rfl, z, rfl, b, x, z, kf, d2, rfl, Tp.mono (TSt.of s2) _ _ hb, Tp.mono (TSt.of s2) _ _ hx1, hf kf (List.mem_of_getElem? hkf), Tp.mono (TSt.of s2) _ _ hz1, gd_get hds hd2, fun H4 s4 => pvf_step p nD (sT.trans s4) ?_ ?_⟩
      · rw [List.getElem?_map, List.getElem?_map, show (ks.zip ds)[i]? = some (kf, d2) from List.getElem?_zip_eq_some.mpr ⟨hkf, hd2⟩]
        rfl
      · rw [hrl]
        exact small1000 (by omega)
    · obtain ⟨p1, p2⟩ := pvf_end p (by omega)
      refine ⟨Dl, _, rfl, SqL.of p2, ?_⟩
      have e : onT (.tuple ds) (fun ds => allF (isVF B n) ks ds) = ((ks.zip ds).map fun p => isVF B n p.1 p.2).all id := by
        show (decide (ks.length = ds.length) && _) = _
        rw [decide_eq_true hl, Bool.true_and, List.all_map]
        rfl
      rw [e] at q
      exact q H' p1
theorem ok_isVal {B : Bk} (O : B.Ok) {W n k : Nat} (hk1 : 1 ≤ k) (hW : W ≤ 100) {f g f1 f2 : Addr} {fd gd' d1 d2 : FuncData} (D : Df K mg "is_value" sIsVal pIs f fd) (N : Nm K w mg) (Da : Df K mg "are_values" sAreVals pAre g gd')
    (D1 : Df K mg "is_number" sNumber ["thing", "many"] f1 d1) (D2 : Df K mg "has_word" sHasWord ["thing"] f2 d2)
    (Gi : FnOk P w K mg base CX0 k f fd pIs (fun vs H Q E => ∃ m, m < n ∧ spIsV B W m vs H Q E)) (Ga : FnOk P w K mg base CX0 k g gd' pAre (fun vs H Q E => ∃ m, m < n ∧ spAreV B W m vs H Q E)) : FnOk P w K mg base CX0 (k + 1) f fd pIs (spIsV B W n) := by
  have G1 := (ok_number (P := P) (base := base) D1 N).mono hk1
  have G2 := (ok_hasWord (P := P) (base := base) D2 N).mono hk1
  obtain ⟨tw, hw⟩ := N.word
  refine D.F.ok scIs (fun vs H Q E h => ?_) (fun cdv A outer s H vs Q E hr h => ?_)
  · obtain ⟨b, k, v, kd, d, rfl, _⟩ := h
    rfl
  obtain ⟨b, kx, v, kd, d, rfl, hb, hk, hf, hv, hg, q⟩ := h
  refine ⟨_, pss_cons (ps_if (pt_cmpR op_eqS (pe_ix ix_head (pv 1) pe_int (fun _ _ => rfl)) pe_str (nomark _)) (pss_one (ps_ret (cl D1 G1 hr (pa_cons (pv 2) (pa_cons (pe_glob (v := .int 4294967296) rfl hw ⟨_, rfl⟩) (pa_nil)))))) pss_nil) (pss_cons (ps_if (pt_cmpR op_eqS (pe_ix ix_head (pv 1) pe_int (fun _ _ => rfl)) pe_str (nomark _)) (pss_one (ps_ret (pe_isBool N (pv 2)))) pss_nil) (pss_cons (ps_if (PW.pt (pw_or (pt_not (pt_val (cl D2 G2 hr (pa_cons (pv 2) (pa_nil))))) (pw_or1 (pt_cmpR op_neS (pe_ix ix_item (pv 2) (pe_int) (fun _ _ => rfl)) (pe_ix ix_head (pv 1) pe_int (fun _ _ => rfl)) (nomark _))))) (pss_one (ps_ret (pe_bl))) pss_nil) (pss_cons (ps_if (pt_cmpR op_eqS (pe_ix ix_head (pv 1) pe_int (fun _ _ => rfl)) pe_str (nomark _)) (pss_cons (ps_if (PW.pt (pw_or (pt_cmpR op_neI (pe_len1 N (pv 2)) (pe_int) (nomark _)) (pw_or1 (pt_not (pt_val (cl D1 G1 hr (pa_cons (pe_ix ix_item (pv 2) (pe_int) (fun _ _ => rfl)) (pa_cons (pe_len1 N (pe_ix ix_item (pe_ix ix_item (pv 0) (pe_int) (fun _ _ => rfl)) (pe_ix ix_item (pv 1) (pe_int) (fun _ _ => rfl)) (fun _ _ => rfl))) (pa_nil))))))))) (pss_one (ps_ret (pe_bl))) pss_nil) (pss_one (ps_ret (cl Da Ga hr (pa_cons (pv 0) (pa_cons (pe_ix ix_item (pe_ix ix_item (pe_ix ix_item (pv 0) (pe_int) (fun _ _ => rfl)) (pe_ix ix_item (pv 1) (pe_int) (fun _ _ => rfl)) (fun _ _ => rfl)) (pe_ix ix_item (pv 2) (pe_int) (fun _ _ => rfl)) (fun _ _ => rfl)) (pa_cons (pe_ix ix_item (pv 2) (pe_int) (fun _ _ => rfl)) (pa_nil)))))))) pss_nil) (pss_cons (ps_if (pt_cmpR op_neI (pe_len1 N (pv 2)) (pe_int) (nomark _)) (pss_one (ps_ret (pe_bl))) pss_nil) (pss_cons (ps_if (pt_cmpR op_eqS (pe_ix ix_head (pv 1) pe_int (fun _ _ => rfl)) pe_str (nomark _)) (pss_one (ps_ret (cl Da Ga hr (pa_cons (pv 0) (pa_cons (pe_ix ix_item (pe_ix ix_item (pv 0) (pe_int) (fun _ _ => rfl)) (pe_ix ix_item (pv 1) (pe_int) (fun _ _ => rfl)) (fun _ _ => rfl)) (pa_cons (pe_ix ix_item (pv 2) (pe_int) (fun _ _ => rfl)) (pa_nil))))))) pss_nil) (pss_cons (ps_if (pt_cmpR op_eqS (pe_ix ix_head (pv 1) pe_int (fun _ _ => rfl)) pe_str (nomark _)) (pss_one (ps_ret (cl D Gi hr (pa_cons (pv 0) (pa_cons (pe_ix ix_item (pv 1) (pe_int) (fun _ _ => rfl)) (pa_cons (pe_ix ix_item (pv 2) (pe_int) (fun _ _ => rfl)) (pa_nil))))))) pss_nil) (pss_one (ps_ret (pe_and (pe_isTup N (pe_ix ix_item (pv 2) (pe_int) (fun _ _ => rfl))) (pe_one (pe_callB (cr_all rfl) (by rfl) N.all boot_all (pa_cons (pe_lc (own := [("one", 3)]) (g := gName 3) (tt := tYes) rfl scIs.nd (pi_tup (pe_ix ix_item (pv 2) (pe_int) (fun _ _ => rfl))) (blkOk_by (own := [("one", 3)]) (N := nIs) (sc := defScope sIsVal) (by decide +kernel)) (fun _ _ _ _ _ => pg_name (i := 3) scIs.nd rfl (Or.inl rfl)) (fun _ _ _ _ _ => pts_nil) (fun _ _ _ _ _ => cl D Gi hr (pa_cons (pv 0) (pa_cons (pe_ix ix_item (pv 1) (pe_int) (fun _ _ => rfl)) (pa_cons (pv 3) (pa_nil)))))) (pa_nil))))))))))))), ?_⟩
  refine ⟨_, rfl, rfl, kd, hk, _, _, rfl, rfl, _, rfl, ite2 (fun c => ?_) (fun c1 => ?_)⟩
  · obtain rfl := hd_int c
    rw [isVF_int] at q
    exact ⟨v, rfl, v, d, 4294967296, rfl, hv, q H (Same.refl H)⟩
  refine ⟨_, rfl, rfl, kd, hk, _, _, rfl, rfl, _, rfl, ite2 (fun c => ?_) (fun c2 => ?_)⟩
  · obtain rfl := hd_bool c
    rw [isVF_bool] at q
    exact ⟨v, rfl, v, d, rfl, hv, q H (Same.refl H)⟩
  have n1 : ¬ kd = .int := fun z => c1 (by rw [z]; exact decide_eq_true rfl)
  have n2 : ¬ kd = .bool := fun z => c2 (by rw [z]; exact decide_eq_true rfl)
  refine ⟨v, rfl, v, d, rfl, hv, _, rfl, ite2 (fun c => ?_) (fun c => ?_)⟩
  · refine iteT ?_
    rw [isVF_none n1 n2 (tl_no (by simpa using c))] at q
    exact q H (Same.refl H)
  obtain ⟨sw, rest, rfl⟩ := wrdT_ex (d := d) (by simpa using c)
  obtain ⟨m, rfl, hw2, hds⟩ := gd_tup hg
  refine ⟨v, rfl, _, 0, _, hv, rfl, rfl, fun z hz => ?_⟩
  cases hz
  refine ⟨_, rfl, rfl, kd, hk, _, _, rfl, rfl, _, rfl, ite2 (fun c => ?_) (fun c => ?_)⟩
  · rw [isVF_none n1 n2 (tl_ne (by simpa using c))] at q
    exact q H (Same.refl H)
  obtain rfl : sw = kd.hd := by simpa using c
  refine ⟨_, rfl, rfl, kd, hk, _, _, rfl, rfl, _, rfl, ite2 (fun c => ?_) (fun c3 => ?_)⟩
  · obtain ⟨j, rfl⟩ := hd_vrt c
    have hn : j < B.vs.length := hf
    obtain ⟨ts, e⟩ : ∃ ts, B.vs[j]? = some ts := ⟨_, List.getElem?_eq_getElem hn⟩
    have hts := O.vf j ts e
    have E0 : isVF B (m + 1) (.vrt j) (.tuple (.str (Kd.vrt j).hd :: rest)) = on2 (fun t x => isNum t ts.length && onT x fun ds => allF (isVF B m) (ts.getD (toI t).toNat []) ds) (some rest) := by
      show on2 _ (tl (Kd.vrt j).hd _) = _
      rw [tl_eq, getD_of e]
    rw [E0] at q
    refine ⟨v, rfl, v, _, rfl, hv, _, _, rfl, rfl, _, rfl, ite2 (fun c => ?_) (fun c => ?_)⟩
    · refine iteT ?_
      rw [on2_ne (by intro z; simp [z] at c)] at q
      exact q H (Same.refl H)
    obtain ⟨t, x, rfl⟩ : ∃ t x, rest = [t, x] := by
      match rest, c with
      | [t, x], _ => exact ⟨t, x, rfl⟩
      | [], c => exact absurd rfl c
      | [_], c => exact absurd rfl c
      | _ :: _ :: _ :: r, c => exact absurd (by simp; omega) c
    refine ⟨v, rfl, _, 1, t, hv, rfl, rfl, fun zt hzt => ⟨b, rfl, _, 1, _, hb, rfl, rfl, fun z hz => ⟨_, rfl, _, 1, _, hk, rfl, rfl, fun z2 hz2 => ?_⟩⟩⟩
    cases hz2
    refine ⟨_, j, _, hz, rfl, vs_at e, fun z3 hz3 => ⟨z3, _, rfl, hz3, zt, t, _, rfl, hzt, _, rfl, ite2 (fun c => ?_) (fun c => ?_)⟩⟩
    · rw [List.length_map] at c
      have E1 : on2 (fun t x => isNum t ts.length && onT x fun ds => allF (isVF B m) (ts.getD (toI t).toNat []) ds) (some [t, x]) = false := by
        show (isNum t ts.length && _) = false
        rw [show isNum t ts.length = false by simpa using c, Bool.false_and]
      rw [E1] at q
      exact q H (Same.refl H)
    · rw [List.length_map] at c
      have c' : isNum t ts.length = true := by simpa using c
      obtain ⟨i, rfl, hi⟩ : ∃ i : Nat, t = .int i ∧ i < ts.length := by
        cases t with
        | int i =>
          have h : (decide (0 ≤ i) && decide (i < (ts.length : Int))) = true := c'
          simp at h
          exact ⟨i.toNat, by rw [Int.toNat_of_nonneg h.1], by omega⟩
        | _ => cases c'
      obtain ⟨ps, ep⟩ : ∃ ps, ts[i]? = some ps := ⟨_, List.getElem?_eq_getElem hi⟩
      have hps := hts.2.2 ps (List.mem_of_getElem? ep)
      cases hzt
      refine ⟨b, rfl, b, rfl, _, 1, _, hb, rfl, rfl, fun z hz => ⟨_, rfl, _, 1, _, hk, rfl, rfl, fun z2 hz2 => ?_⟩⟩
      cases hz2
      refine ⟨_, j, _, hz, rfl, vs_at e, fun z3 hz3 => ⟨v, rfl, _, 1, _, hv, rfl, rfl, fun z4 hz4 => ?_⟩⟩
      cases hz4
      refine ⟨_, i, _, hz3, rfl, ts_at ep, fun z5 hz5 => ⟨v, rfl, _, 2, x, hv, rfl, rfl, fun zx hzx => ?_⟩⟩
      refine ⟨m, Nat.lt_succ_self m, b, z5, zx, ps, x, rfl, hb, hz5, fun kf hkf => (hps.2 kf hkf).fits, hzx, gd.mono (Nat.le_refl _) (hds x (by simp)) (by omega), fun H' s' => ?_⟩
      have E1 : on2 (fun t x => isNum t ts.length && onT x fun ds => allF (isVF B m) (ts.getD (toI t).toNat []) ds) (some [.int (i : Int), x]) = onT x (fun ds => allF (isVF B m) ps ds) := by
        show (isNum (.int (i : Int)) ts.length && onT x fun ds => allF (isVF B m) (ts.getD ((i : Int)).toNat []) ds) = _
        rw [c', Bool.true_and, Int.toNat_natCast, getD_of ep]
      rw [E1] at q
      exact q H' s'
  refine ⟨v, rfl, v, _, rfl, hv, _, _, rfl, rfl, _, rfl, ite2 (fun c => ?_) (fun c => ?_)⟩
  · have hne : rest.length ≠ 1 := by intro z; simp [z] at c
    have E0 : isVF B (m + 1) kd (.tuple (.str kd.hd :: rest)) = false := by
      cases kd with
      | int => exact absurd rfl n1
      | bool => exact absurd rfl n2
      | vrt j => exact absurd (decide_eq_true rfl) c3
      | box j => show on1 _ (tl (Kd.box j).hd _) = _; rw [tl_eq, on1_ne hne]
      | vec j => show on1 _ (tl (Kd.vec j).hd _) = _; rw [tl_eq, on1_ne hne]
      | rcd j => show on1 _ (tl (Kd.rcd j).hd _) = _; rw [tl_eq, on1_ne hne]
      | rf j => rfl
      | mt j => rfl
    rw [E0] at q
    exact q H (Same.refl H)
  obtain ⟨x, rfl⟩ : ∃ x, rest = [x] := by
    match rest, c with
    | [x], _ => exact ⟨x, rfl⟩
    | [], c => exact absurd rfl c
    | _ :: _ :: r, c => exact absurd (by simp; omega) c
  have hgx : gd W m x := hds x (by simp)
  refine ⟨_, rfl, rfl, kd, hk, _, _, rfl, rfl, _, rfl, ite2 (fun c => ?_) (fun c4 => ?_)⟩
  · obtain ⟨j, rfl⟩ := hd_rcd c
    have hn : j < B.rs.length := hf
    obtain ⟨fs, e⟩ : ∃ fs, B.rs[j]? = some fs := ⟨_, List.getElem?_eq_getElem hn⟩
    have hfs := O.rf j fs e
    have E0 : isVF B (m + 1) (.rcd j) (.tuple (.str (Kd.rcd j).hd :: [x])) = onT x (fun ds => allF (isVF B m) fs ds) := by
      show on1 _ (tl (Kd.rcd j).hd _) = _
      rw [tl_eq, getD_of e]
      rfl
    rw [E0] at q
    refine ⟨b, rfl, b, rfl, _, 0, _, hb, rfl, rfl, fun z hz => ⟨_, rfl, _, 1, _, hk, rfl, rfl, fun z2 hz2 => ?_⟩⟩
    cases hz2
    refine ⟨_, j, _, hz, rfl, rs_at e, fun z3 hz3 => ⟨v, rfl, _, 1, x, hv, rfl, rfl, fun zx hzx => ?_⟩⟩
    exact ⟨m, Nat.lt_succ_self m, b, z3, zx, fs, x, rfl, hb, hz3, fun kf hkf => (hfs.2 kf hkf).fits, hzx, gd.mono (Nat.le_refl _) hgx (by omega), q⟩
  refine ⟨_, rfl, rfl, kd, hk, _, _, rfl, rfl, _, rfl, ite2 (fun c => ?_) (fun c5 => ?_)⟩
  · obtain ⟨j, rfl⟩ := hd_box c
    have E0 : isVF B (m + 1) (.box j) (.tuple (.str (Kd.box j).hd :: [x])) = isVF B m j x := by
      show on1 _ (tl (Kd.box j).hd _) = _
      rw [tl_eq]
      rfl
    rw [E0] at q
    exact ⟨b, rfl, _, rfl, _, 1, _, hk, rfl, rfl, fun z hz => ⟨v, rfl, _, 1, x, hv, rfl, rfl, fun zx hzx => ⟨m, Nat.lt_succ_self m, b, z, zx, j, x, rfl, hb, hz, hf, hzx, hgx, q⟩⟩⟩
  obtain ⟨j, rfl⟩ : ∃ j, kd = .vec j := by
    cases kd with
    | vec j => exact ⟨j, rfl⟩
    | int => exact absurd rfl n1
    | bool => exact absurd rfl n2
    | vrt j => exact absurd (decide_eq_true rfl) c3
    | rcd j => exact absurd (decide_eq_true rfl) c4
    | box j => exact absurd (decide_eq_true rfl) c5
    | rf j => exact hf.elim
    | mt j => exact hf.elim
  have E0 : isVF B (m + 1) (.vec j) (.tuple (.str (Kd.vec j).hd :: [x])) = onT x (fun ds => ds.all (isVF B m j)) := by
    show on1 _ (tl (Kd.vec j).hd _) = _
    rw [tl_eq]
    rfl
  rw [E0] at q
  refine ⟨v, rfl, _, 1, x, hv, rfl, rfl, fun zx hzx => ⟨zx, x, rfl, hzx, _, rfl, ite2 (fun c => ?_) (fun c => ?_)⟩⟩
  · obtain ⟨ds, rfl⟩ : ∃ ds, x = .tuple ds := by cases x <;> first | exact ⟨_, rfl⟩ | cases c
    obtain ⟨m', rfl, hwx, hdx⟩ := gd_tup hgx
    refine ⟨v, rfl, _, 1, .tuple ds, hv, rfl, rfl, fun zy hzy => ?_⟩
    obtain ⟨a, xs, rfl, ha, hx, hl⟩ := hzy.open
    have hrl : ((ds.map (isVF B (m' + 1) j)).map V.bl).length = ds.length := by rw [List.length_map, List.length_map]
    refine ⟨a, rfl, ⟨xs, SqT.of ha⟩, fun Dl nD => lc_tup (K := K) (a := a) (xs := xs) (PvF H Dl ((ds.map (isVF B (m' + 1) j)).map V.bl)) (pvf_0 nD) (fun i H' _ p => SqT.of (p.1 _ _ ha)) (fun i x H' hx' p => ?_) (fun H' p => ?_)⟩
    · obtain ⟨d, hd, hxd⟩ := hx.at' hx'
      refine ⟨rfl, b, rfl, _, rfl, _, 1, _, Tp.mono (TSt.of p.1) _ _ hk, rfl, rfl, fun z hz => ⟨x, rfl, m' + 1, by omega, b, z, x, j, d, rfl, Tp.mono (TSt.of p.1) _ _ hb, hz, hf, Tp.mono (TSt.of p.1) _ _ hxd, gd.mono (Nat.le_refl _) (gd_get hdx hd) (by omega), fun H4 s4 => pvf_step p nD s4 (by rw [List.getElem?_map, List.getElem?_map, hd]; rfl) ?_⟩⟩
      rw [hrl]
      exact small1000 (by omega)
    · obtain ⟨p1, p2⟩ := pvf_end p (by omega)
      refine ⟨Dl, _, rfl, SqL.of p2, ?_⟩
      have e : onT (.tuple ds) (fun ds => ds.all (isVF B (m' + 1) j)) = (ds.map (isVF B (m' + 1) j)).all id := by
        show ds.all _ = _
        rw [List.all_map]
        rfl
      rw [e] at q
      exact q H' p1
  · have e : onT x (fun ds => ds.all (isVF B m j)) = false := by
      cases x with
      | tuple ds => exact absurd rfl c
      | _ => rfl
    rw [e] at q
    exact q H (Same.refl H)
theorem all_isVal {B : Bk} (O : B.Ok) {W : Nat} (hW : W ≤ 100) {f g f1 f2 : Addr} {fd gd' d1 d2 : FuncData} (D : Df K mg "is_value" sIsVal pIs f fd) (N : Nm K w mg) (Da : Df K mg "are_values" sAreVals pAre g gd')
    (D1 : Df K mg "is_number" sNumber ["thing", "many"] f1 d1) (D2 : Df K mg "has_word" sHasWord ["thing"] f2 d2) :
    ∀ n, FnOk P w K mg base CX0 (2 * n + 2) f fd pIs (spIsV B W n) ∧ FnOk P w K mg base CX0 (2 * n + 3) g gd' pAre (spAreV B W n) := fun n =>
  Nat.strongRecOn n fun n ih => by
    have G := ok_isVal O (k := 2 * n + 1) (by omega) hW D N Da D1 D2 (FnOk.below fun m hm => ((ih m hm).1).mono (by omega)) (FnOk.below fun m hm => ((ih m hm).2).mono (by omega))
    exact ⟨G, ok_areVals hW Da N D G⟩
end
end My
set_option maxRecDepth 100000
set_option maxHeartbeats 4000000
namespace My
open PySem L2
section
variable {P : Program} {w : World} {K : PySem.W.Frag} {mg : Str → Option Value} {base : Heap}
abbrev pLAre : List Str := ["_law_book_here", "_law_kinds", "_law_thing"]
abbrev pLIs : List Str := ["_law_book_here", "_law_kind", "_law_thing"]
abbrev nLAre : List Str := ["_law_book_here", "_law_kinds", "_law_thing", "_law_k"]
abbrev nLIs : List Str := ["_law_book_here", "_law_kind", "_law_thing", "_law_tags"]
theorem scLAre : FnScope nLAre pLAre (defScope sAllAre) := ⟨rfl, rfl, rfl, by decide +kernel, rfl, by decide +kernel, by decide +kernel⟩
theorem scLIs : FnScope nLIs pLIs (defScope sLIsVal) := ⟨rfl, rfl, rfl, by decide +kernel, rfl, by decide +kernel, by decide +kernel⟩
theorem dpAll_ints {K : PySem.W.Frag} {H : Hp} : ∀ ns : List Int, DpAll K H (ns.map V.int) (ns.map PyData.int)
  | [] => .nil
  | n :: r => .cons (.int n) (dpAll_ints r)
theorem ints_lay : ∀ ns : List Int, PyData.canLayAll0 (ns.map PyData.int) = true ∧ PyData.depthAll (ns.map PyData.int) = 0
  | [] => by simp [PyData.canLayAll0, PyData.depthAll]
  | n :: r => by simp [PyData.canLayAll0, PyData.depthAll, PyData.canLay0, PyData.depth, ints_lay r]
theorem shaped_ints (ns : List Int) : SeqAt.shaped (.list (ns.map PyData.int)) = true := by
  have h := ints_lay ns
  show (PyData.canLayAll0 (ns.map PyData.int) && decide (PyData.depth (.list (ns.map PyData.int)) ≤ 64)) = true
  rw [h.1, Bool.true_and]
  refine decide_eq_true ?_
  simp only [PyData.depth, h.2]
  omega
theorem zip_rep (f : Kd → PyData → Bool) (j : Kd) : ∀ ds : List PyData, ((List.replicate ds.length j).zip ds).all (fun p => f p.1 p.2) = ds.all (f j)
  | [] => rfl
  | d :: r => by
    rw [List.length_cons, List.replicate_succ, List.zip_cons_cons, List.all_cons, List.all_cons, zip_rep f j r]
theorem allF_rep (f : Kd → PyData → Bool) (j : Kd) (ds : List PyData) : allF f (List.replicate ds.length j) ds = ds.all (f j) := by
  unfold allF
  rw [List.length_replicate, decide_eq_true rfl, Bool.true_and, zip_rep]
theorem ok_lAre {B : Bk} {W n k : Nat} (hW : W ≤ 100) {f g : Addr} {fd gd' : FuncData} (D : Df K mg "_law_all_are" sAllAre pLAre f fd) (N : Nm K w mg) (Di : Df K mg "_law_is_value" sLIsVal pLIs g gd')
    (G : FnOk P w K mg base CX0 k g gd' pLIs (spIsV B W n)) : FnOk P w K mg base CX0 (k + 1) f fd pLAre (spAreV B W n) := by
  refine D.F.ok scLAre (fun vs H Q E h => ?_) (fun cdv A outer s H vs Q E hr h => ?_)
  · obtain ⟨b, k, v, ks, d, rfl, _⟩ := h
    rfl
  obtain ⟨b, kx, v, ks, d, rfl, hb, hk, hf, hv, hg, q⟩ := h
  refine ⟨_, pss_cons (ps_if (PW.pt (pw_or (pt_not (pt_val (pe_isTup N (pv 2)))) (pw_or1 (pt_cmpR op_neI (pe_len1 N (pv 2)) (pe_len1 N (pv 1)) (nomark _))))) (pss_one (ps_ret (pe_bl))) pss_nil) (pss_one (ps_ret (pe_cmpR (op_eqD hr.units) (pe_lc (own := [("_law_k", 3)]) (g := gName 3) (tt := (tNot (tB (tCall (spIsV B W n) [] E0 (tCons (tVar 0) (tCons (tOp rItem (tVar 1) (tVar 3)) (tCons (tOp rItem (tVar 2) (tVar 3)) tNil))))))) rfl scLAre.nd (pi_range1 rfl N.range (pa_cons (pe_len1 N (pv 1)) (pa_nil))) (blkOk_by (own := [("_law_k", 3)]) (N := nLAre) (sc := defScope sAllAre) (by decide +kernel)) (fun _ _ _ _ _ => pg_name (i := 3) scLAre.nd rfl (Or.inl rfl)) (fun _ _ _ _ _ => pts_one (pt_not (pt_val (cl Di G hr (pa_cons (pv 0) (pa_cons (pe_ix ix_item (pv 1) (pv 3) (fun _ _ => rfl)) (pa_cons (pe_ix ix_item (pv 2) (pv 3) (fun _ _ => rfl)) (pa_nil)))))))) (fun _ _ _ _ _ => pv 3)) (pe_lst pa_nil) (nomark _)))), ?_⟩
  refine ⟨v, rfl, v, d, rfl, hv, _, rfl, ite2 (fun c => ?_) (fun c => ?_)⟩
  · refine iteT ?_
    have e : onT d (fun ds => allF (isVF B n) ks ds) = false := by
      cases d with
      | tuple ds => cases c
      | _ => rfl
    rw [e] at q
    exact q H (Same.refl H)
  obtain ⟨ds, rfl⟩ : ∃ ds, d = .tuple ds := by
    cases d with
    | tuple ds => exact ⟨ds, rfl⟩
    | _ => exact absurd rfl c
  refine ⟨v, rfl, v, ds, rfl, hv, kx, rfl, kx, _, rfl, hk, _, _, rfl, rfl, _, rfl, ite2 (fun c2 => ?_) (fun c2 => ?_)⟩
  · have c2' : (!decide (((ds.length : Nat) : Int) = (((ks.map kdD).length : Nat) : Int))) = true := c2
    rw [List.length_map] at c2'
    have e : onT (.tuple ds) (fun ds => allF (isVF B n) ks ds) = false := by
      show (decide (ks.length = ds.length) && _) = false
      rw [decide_eq_false (fun z => by rw [z] at c2'; simp at c2'), Bool.false_and]
    rw [e] at q
    exact q H (Same.refl H)
  · have c2' : ¬ (!decide (((ds.length : Nat) : Int) = (((ks.map kdD).length : Nat) : Int))) = true := c2
    rw [List.length_map] at c2'
    have hl : ks.length = ds.length := by
      by_cases z : ks.length = ds.length
      · exact z
      · exact absurd (by rw [decide_eq_false (fun y => z (by omega))]; rfl) c2'
    obtain ⟨m, hm, hw, hds⟩ := gd_tup hg
    obtain rfl : n = m := by omega
    have hlz : (ks.zip ds).length = ks.length := by rw [List.length_zip]; omega
    have hn3 : (((ks.map kdD).length : Nat) : Int).toNat = ks.length := by rw [List.length_map]; omega
    have hb62 := len62 (n := (ks.map kdD).length) (by rw [List.length_map]; omega)
    refine ⟨kx, rfl, kx, _, rfl, hk, _, rfl, hb62.1, hb62.2, fun Dl nD => ?_⟩
    rw [hn3]
    refine lc_range0 (fun i H' => Same H H' ∧ ∃ ns : List Int, H' Dl = some (.lst (ns.map V.int)) ∧ ns.length ≤ i ∧ ns.isEmpty = ((ks.zip ds).take i).all fun p => isVF B n p.1 p.2) ⟨same_new nD _, [], upd_same, Nat.le_refl _, rfl⟩ (fun i H' hi ⟨s1, ns, hD, hns, he⟩ => ?_) (fun H' ⟨s1, ns, hD, hns, he⟩ => ?_)
    · obtain ⟨kf, hkf⟩ : ∃ kf, ks[i]? = some kf := ⟨_, List.getElem?_eq_getElem hi⟩
      obtain ⟨d2, hd2⟩ : ∃ d2, ds[i]? = some d2 := ⟨_, List.getElem?_eq_getElem (show i < ds.length by omega)⟩
      have ez : (ks.zip ds)[i]? = some (kf, d2) := List.getElem?_zip_eq_some.mpr ⟨hkf, hd2⟩
      have et : ((ks.zip ds).take (i + 1)).all (fun p => isVF B n p.1 p.2) = (((ks.zip ds).take i).all (fun p => isVF B n p.1 p.2) && isVF B n kf d2) := by
        rw [List.take_add_one, ez, List.all_append]
        simp
      refine ⟨rfl, b, rfl, kx, rfl, _, rfl, _, i, _, Tp.mono (TSt.of s1) _ _ hk, rfl, ks_at hkf, fun z hz => ⟨v, rfl, _, rfl, _, i, _, Tp.mono (TSt.of s1) _ _ hv, rfl, hd2, fun z2 hz2 => ?_⟩⟩
      refine ⟨b, z, z2, kf, d2, rfl, Tp.mono (TSt.of s1) _ _ hb, hz, hf kf (List.mem_of_getElem? hkf), hz2, gd_get hds hd2, fun H4 s4 => ⟨_, rfl, ite2 (fun c => ?_) (fun c => ?_)⟩⟩
      · have c' : isVF B n kf d2 = false := by simpa using c
        refine ⟨_, rfl, _, s4 _ _ hD, ?_, Same.writ (s1.trans s4) nD _, ns ++ [((i : Nat) : Int)], ?_, ?_, ?_⟩
        · rw [List.length_map]
          exact small1000 (by omega)
        · rw [upd_same, List.map_append]
          rfl
        · rw [List.length_append, List.length_singleton]
          omega
        · rw [et, c', Bool.and_false]
          simp
      · have c' : isVF B n kf d2 = true := by simpa using c
        exact ⟨s1.trans s4, ns, s4 _ _ hD, by omega, by rw [et, c', Bool.and_true, he]⟩
    · refine ⟨Nat.zero_le _, fun p np => ?_⟩
      have nDp : Dl ≠ p := ne_of_none hD np
      refine ⟨.list (ns.map .int), .list [], .lst (SqL.of (by rw [upd_ne nDp]; exact hD)) (dpAll_ints ns), .lst (SqL.of upd_same) .nil, shaped_ints ns, shaped_nil, ?_⟩
      rw [eqv_nil]
      have e2 : onT (.tuple ds) (fun ds => allF (isVF B n) ks ds) = (ns.map PyData.int).isEmpty := by
        show (decide (ks.length = ds.length) && (ks.zip ds).all _) = _
        rw [decide_eq_true hl, Bool.true_and]
        rw [← hlz, List.take_length] at he
        rw [← he]
        cases ns <;> rfl
      rw [e2] at q
      exact q _ (s1.trans (same_new np _))
theorem ok_lIs {B : Bk} (O : B.Ok) {W n k : Nat} (hn64 : n ≤ 64) (hW : W ≤ 100) {f g : Addr} {fd gd' : FuncData} (D : Df K mg "_law_is_value" sLIsVal pLIs f fd) (N : Nm K w mg) (Da : Df K mg "_law_all_are" sAllAre pLAre g gd')
    (Gi : FnOk P w K mg base CX0 k f fd pLIs (fun vs H Q E => ∃ m, m < n ∧ spIsV B W m vs H Q E)) (Ga : FnOk P w K mg base CX0 k g gd' pLAre (fun vs H Q E => ∃ m, m < n ∧ spAreV B W m vs H Q E)) : FnOk P w K mg base CX0 (k + 1) f fd pLIs (spIsV B W n) := by
  refine D.F.ok scLIs (fun vs H Q E h => ?_) (fun cdv A outer s H vs Q E hr h => ?_)
  · obtain ⟨b, k, v, kd, d, rfl, _⟩ := h
    rfl
  obtain ⟨b, kx, v, kd, d, rfl, hb, hk, hf, hv, hg, q⟩ := h
  refine ⟨_, pss_cons (ps_if (pt_cmpR op_eqS (pe_ix ix_head (pv 1) pe_int (fun _ _ => rfl)) pe_str (nomark _)) (pss_one (ps_ret (pe_and (pe_isInt N (pv 2)) (pe_and (pe_not (pe_isBool N (pv 2))) (pe_and (pe_cmpR op_le (pe_int) (pv 2) (nomark _)) (pe_one (pe_cmpR op_lt (pv 2) (pe_int) (nomark _)))))))) pss_nil) (pss_cons (ps_if (pt_cmpR op_eqS (pe_ix ix_head (pv 1) pe_int (fun _ _ => rfl)) pe_str (nomark _)) (pss_one (ps_ret (pe_isBool N (pv 2)))) pss_nil) (pss_cons (ps_if (PW.pt (pw_or (pt_not (pt_val (pe_isTup N (pv 2)))) (pw_or (pt_cmpR (op_eqD hr.units) (pv 2) (pe_tup pa_nil) (nomark _)) (pw_or (pt_not (pt_val (pe_isStr N (pe_ix ix_item (pv 2) (pe_int) (fun _ _ => rfl))))) (pw_or1 (pt_cmpR op_neS (pe_ix ix_item (pv 2) (pe_int) (fun _ _ => rfl)) (pe_ix ix_head (pv 1) pe_int (fun _ _ => rfl)) (nomark _))))))) (pss_one (ps_ret (pe_bl))) pss_nil) (pss_cons (ps_if (pt_cmpR op_eqS (pe_ix ix_head (pv 1) pe_int (fun _ _ => rfl)) pe_str (nomark _)) (pss_cons (ps_set (i := 3) scLIs.nd rfl (Or.inl rfl) (pe_ix ix_item (pe_ix ix_item (pv 0) (pe_int) (fun _ _ => rfl)) (pe_ix ix_item (pv 1) (pe_int) (fun _ _ => rfl)) (fun _ _ => rfl))) (pss_cons (ps_if (PW.pt (pw_or (pt_cmpR op_neI (pe_len1 N (pv 2)) (pe_int) (nomark _)) (pw_or (pt_not (pt_val (pe_isInt N (pe_ix ix_item (pv 2) (pe_int) (fun _ _ => rfl))))) (pw_or (pt_val (pe_isBool N (pe_ix ix_item (pv 2) (pe_int) (fun _ _ => rfl)))) (pw_or (pt_not (pt_cmpR op_le (pe_int) (pe_ix ix_item (pv 2) (pe_int) (fun _ _ => rfl)) (nomark _))) (pw_or1 (pt_cmpR op_ge (pe_ix ix_item (pv 2) (pe_int) (fun _ _ => rfl)) (pe_len1 N (pv 3)) (nomark _)))))))) (pss_one (ps_ret (pe_bl))) pss_nil) (pss_one (ps_ret (cl Da Ga hr (pa_cons (pv 0) (pa_cons (pe_ix ix_item (pv 3) (pe_ix ix_item (pv 2) (pe_int) (fun _ _ => rfl)) (fun _ _ => rfl)) (pa_cons (pe_ix ix_item (pv 2) (pe_int) (fun _ _ => rfl)) (pa_nil))))))))) pss_nil) (pss_cons (ps_if (pt_cmpR op_neI (pe_len1 N (pv 2)) (pe_int) (nomark _)) (pss_one (ps_ret (pe_bl))) pss_nil) (pss_cons (ps_if (pt_cmpR op_eqS (pe_ix ix_head (pv 1) pe_int (fun _ _ => rfl)) pe_str (nomark _)) (pss_one (ps_ret (cl Da Ga hr (pa_cons (pv 0) (pa_cons (pe_ix ix_item (pe_ix ix_item (pv 0) (pe_int) (fun _ _ => rfl)) (pe_ix ix_item (pv 1) (pe_int) (fun _ _ => rfl)) (fun _ _ => rfl)) (pa_cons (pe_ix ix_item (pv 2) (pe_int) (fun _ _ => rfl)) (pa_nil))))))) pss_nil) (pss_cons (ps_if (pt_cmpR op_eqS (pe_ix ix_head (pv 1) pe_int (fun _ _ => rfl)) pe_str (nomark _)) (pss_one (ps_ret (cl D Gi hr (pa_cons (pv 0) (pa_cons (pe_ix ix_item (pv 1) (pe_int) (fun _ _ => rfl)) (pa_cons (pe_ix ix_item (pv 2) (pe_int) (fun _ _ => rfl)) (pa_nil))))))) pss_nil) (pss_one (ps_ret (pe_and (pe_isTup N (pe_ix ix_item (pv 2) (pe_int) (fun _ _ => rfl))) (pe_one (cl Da Ga hr (pa_cons (pv 0) (pa_cons (pe_op op_repK (pe_tup (pa_cons (pe_ix ix_item (pv 1) (pe_int) (fun _ _ => rfl)) (pa_nil))) (pe_len1 N (pe_ix ix_item (pv 2) (pe_int) (fun _ _ => rfl)))) (pa_cons (pe_ix ix_item (pv 2) (pe_int) (fun _ _ => rfl)) (pa_nil))))))))))))))), ?_⟩
  refine ⟨_, rfl, rfl, kd, hk, _, _, rfl, rfl, _, rfl, ite2 (fun c => ?_) (fun c1 => ?_)⟩
  · obtain rfl := hd_int c
    rw [isVF_int] at q
    refine ⟨v, rfl, v, d, rfl, hv, _, rfl, ite2 (fun c => ?_) (fun c => ?_)⟩
    · refine ⟨v, rfl, v, d, rfl, hv, _, rfl, _, rfl, ite2 (fun c2 => ?_) (fun c2 => ?_)⟩
      · cases hv with
        | int i =>
          refine ⟨_, rfl, _, _, rfl, rfl, _, rfl, ite2 (fun c3 => ?_) (fun c3 => ?_)⟩
          · refine ⟨_, rfl, _, _, rfl, rfl, ?_⟩
            have e : isNum (.int i) 4294967296 = decide (i < 4294967296) := by
              show (decide (0 ≤ i) && decide (i < 4294967296)) = _
              rw [c3, Bool.true_and]
            rw [e] at q
            exact q H (Same.refl H)
          · have e : isNum (.int i) 4294967296 = false := by
              show (decide (0 ≤ i) && decide (i < 4294967296)) = _
              rw [Bool.eq_false_iff.mpr c3, Bool.false_and]
            rw [e] at q
            exact q H (Same.refl H)
        | non => cases c
        | bl b => cases c2
        | str x => cases c
        | tup _ _ => cases c
      · cases hv with
        | bl b => exact q H (Same.refl H)
        | int i => exact absurd rfl c2
        | non => cases c
        | str x => cases c
        | tup _ _ => cases c
    · cases hv with
      | int i => exact absurd rfl c
      | bl b => exact absurd rfl c
      | non => exact q H (Same.refl H)
      | str x => exact q H (Same.refl H)
      | tup _ _ => exact q H (Same.refl H)
  refine ⟨_, rfl, rfl, kd, hk, _, _, rfl, rfl, _, rfl, ite2 (fun c => ?_) (fun c2 => ?_)⟩
  · obtain rfl := hd_bool c
    rw [isVF_bool] at q
    exact ⟨v, rfl, v, d, rfl, hv, q H (Same.refl H)⟩
  have n1 : ¬ kd = .int := fun z => c1 (by rw [z]; exact decide_eq_true rfl)
  have n2 : ¬ kd = .bool := fun z => c2 (by rw [z]; exact decide_eq_true rfl)
  refine ⟨v, rfl, v, d, rfl, hv, _, rfl, ite2 (fun c => ?_) (fun c => ?_)⟩
  · rw [isVF_none n1 n2 (tl_no (by cases d <;> first | rfl | cases c))] at q
    exact q H (Same.refl H)
  obtain ⟨ds, rfl⟩ : ∃ ds, d = .tuple ds := by cases d <;> first | exact ⟨_, rfl⟩ | exact absurd rfl c
  refine ⟨v, rfl, Nat.zero_le _, fun p np => ⟨.tuple ds, .tuple [], Tp.dp _ _ (Tp.mono (TSt.of (same_new np _)) _ _ hv), .tup (SqT.of upd_same) .nil, gd_shaped hg hn64, shaped_unit, _, rfl, ?_⟩⟩
  have sp : Same H (upd H p (.tup [])) := same_new np _
  replace hv := Tp.mono (TSt.of sp) _ _ hv
  replace hb := Tp.mono (TSt.of sp) _ _ hb
  replace hk := Tp.mono (TSt.of sp) _ _ hk
  replace q : ∀ H', Same (upd H p (.tup [])) H' → Q (.bl (isVF B n kd (.tuple ds))) H' := fun H' s' => q H' (sp.trans s')
  generalize upd H p (.tup []) = H at *
  rw [eqv_unit]
  refine ite2 (fun c => ?_) (fun c => ?_)
  · obtain rfl : ds = [] := by simpa using c
    rw [isVF_none n1 n2 (tl_no rfl)] at q
    exact q H (Same.refl H)
  obtain ⟨d0, rest, rfl⟩ : ∃ d0 rest, ds = d0 :: rest := by
    cases ds with
    | nil => exact absurd rfl c
    | cons x r => exact ⟨x, r, rfl⟩
  refine ⟨v, rfl, _, 0, _, hv, rfl, rfl, fun z hz => ⟨z, d0, rfl, hz, _, rfl, ite2 (fun c => ?_) (fun c => ?_)⟩⟩
  · rw [isVF_none n1 n2 (tl_no (by cases d0 <;> first | rfl | cases c))] at q
    exact q H (Same.refl H)
  obtain ⟨sw, rfl⟩ : ∃ sw, d0 = .str sw := by cases d0 <;> first | exact ⟨_, rfl⟩ | exact absurd rfl c
  obtain ⟨m, rfl, hw2, hds⟩ := gd_tup hg
  refine ⟨v, rfl, _, 0, _, hv, rfl, rfl, fun z hz => ?_⟩
  cases hz
  refine ⟨_, rfl, rfl, kd, hk, _, _, rfl, rfl, _, rfl, ite2 (fun c => ?_) (fun c => ?_)⟩
  · rw [isVF_none n1 n2 (tl_ne (by simpa using c))] at q
    exact q H (Same.refl H)
  obtain rfl : sw = kd.hd := by simpa using c
  refine ⟨_, rfl, rfl, kd, hk, _, _, rfl, rfl, _, rfl, ite2 (fun c => ?_) (fun c3 => ?_)⟩
  · obtain ⟨j, rfl⟩ := hd_vrt c
    have hn : j < B.vs.length := hf
    obtain ⟨ts, e⟩ : ∃ ts, B.vs[j]? = some ts := ⟨_, List.getElem?_eq_getElem hn⟩
    have hts := O.vf j ts e
    have E0 : isVF B (m + 1) (.vrt j) (.tuple (.str (Kd.vrt j).hd :: rest)) = on2 (fun t x => isNum t ts.length && onT x fun ds => allF (isVF B m) (ts.getD (toI t).toNat []) ds) (some rest) := by
      show on2 _ (tl (Kd.vrt j).hd _) = _
      rw [tl_eq, getD_of e]
    rw [E0] at q
    refine ⟨b, rfl, _, 1, _, hb, rfl, rfl, fun z hz => ⟨_, rfl, _, 1, _, hk, rfl, rfl, fun z2 hz2 => ?_⟩⟩
    cases hz2
    refine ⟨_, j, _, hz, rfl, vs_at e, fun z3 hz3 => ?_⟩
    refine ⟨v, rfl, v, _, rfl, hv, _, _, rfl, rfl, _, rfl, ite2 (fun c => ?_) (fun c => ?_)⟩
    · rw [on2_ne (by intro z; simp [z] at c)] at q
      exact q H (Same.refl H)
    obtain ⟨t, x, rfl⟩ : ∃ t x, rest = [t, x] := by
      match rest, c with
      | [t, x], _ => exact ⟨t, x, rfl⟩
      | [], c => exact absurd rfl c
      | [_], c => exact absurd rfl c
      | _ :: _ :: _ :: r, c => exact absurd (by simp; omega) c
    have no : isNum t ts.length = false → Q (.bl false) H := fun h => by
      have E1 : on2 (fun t x => isNum t ts.length && onT x fun ds => allF (isVF B m) (ts.getD (toI t).toNat []) ds) (some [t, x]) = false := by
        show (isNum t ts.length && _) = false
        rw [h, Bool.false_and]
      rw [E1] at q
      exact q H (Same.refl H)
    refine ⟨v, rfl, _, 1, t, hv, rfl, rfl, fun zt hzt => ⟨zt, t, rfl, hzt, _, rfl, ite2 (fun c => ?_) (fun c => ?_)⟩⟩
    · exact no (by cases t <;> first | rfl | cases c)
    refine ⟨v, rfl, _, 1, t, hv, rfl, rfl, fun zt hzt => ⟨zt, t, rfl, hzt, _, rfl, ite2 (fun c2 => ?_) (fun c2 => ?_)⟩⟩
    · exact no (by cases t <;> first | rfl | cases c2)
    obtain ⟨i, rfl⟩ : ∃ i, t = .int i := by cases t <;> first | exact ⟨_, rfl⟩ | exact absurd rfl c | exact absurd rfl c2
    refine ⟨v, rfl, _, 1, _, hv, rfl, rfl, fun zt hzt => ?_⟩
    cases hzt
    refine ⟨_, _, rfl, rfl, _, rfl, ite2 (fun c => ?_) (fun c3 => ?_)⟩
    · refine no ?_
      show (decide (0 ≤ i) && _) = false
      rw [show decide (0 ≤ i) = false by simpa using c, Bool.false_and]
    have h0 : 0 ≤ i := by simpa using c3
    refine ⟨v, rfl, _, 1, _, hv, rfl, rfl, fun zt hzt => ?_⟩
    cases hzt
    refine ⟨z3, rfl, z3, _, rfl, hz3, _, _, rfl, rfl, _, rfl, ite2 (fun c => ?_) (fun c4 => ?_)⟩
    · refine no ?_
      rw [List.length_map] at c
      have c' : ((ts.length : Nat) : Int) ≤ i := by simpa using c
      show (decide (0 ≤ i) && decide (i < (ts.length : Int))) = false
      rw [decide_eq_false (show ¬ i < (ts.length : Int) by omega), Bool.and_false]
    · rw [List.length_map] at c4
      have hi : i < ((ts.length : Nat) : Int) := by simpa using c4
      obtain ⟨i, rfl⟩ : ∃ j : Nat, i = (j : Int) := ⟨i.toNat, by rw [Int.toNat_of_nonneg h0]⟩
      obtain ⟨ps, ep⟩ : ∃ ps, ts[i]? = some ps := ⟨_, List.getElem?_eq_getElem (by omega)⟩
      have hps := hts.2.2 ps (List.mem_of_getElem? ep)
      refine ⟨b, rfl, z3, rfl, v, rfl, _, 1, _, hv, rfl, rfl, fun z4 hz4 => ?_⟩
      cases hz4
      refine ⟨_, i, _, hz3, rfl, ts_at ep, fun z5 hz5 => ⟨v, rfl, _, 2, x, hv, rfl, rfl, fun zx hzx => ?_⟩⟩
      refine ⟨m, Nat.lt_succ_self m, b, z5, zx, ps, x, rfl, hb, hz5, fun kf hkf => (hps.2 kf hkf).fits, hzx, gd.mono (Nat.le_refl _) (hds x (by simp)) (by omega), fun H' s' => ?_⟩
      have E1 : on2 (fun t x => isNum t ts.length && onT x fun ds => allF (isVF B m) (ts.getD (toI t).toNat []) ds) (some [.int (i : Int), x]) = onT x (fun ds => allF (isVF B m) ps ds) := by
        show ((decide (0 ≤ (i : Int)) && decide ((i : Int) < (ts.length : Int))) && onT x fun ds => allF (isVF B m) (ts.getD ((i : Int)).toNat []) ds) = _
        rw [decide_eq_true h0, decide_eq_true hi, Bool.true_and, Bool.true_and, Int.toNat_natCast, getD_of ep]
      rw [E1] at q
      exact q H' s'
  refine ⟨v, rfl, v, _, rfl, hv, _, _, rfl, rfl, _, rfl, ite2 (fun c => ?_) (fun c => ?_)⟩
  · have hne : rest.length ≠ 1 := by intro z; simp [z] at c
    have E0 : isVF B (m + 1) kd (.tuple (.str kd.hd :: rest)) = false := by
      cases kd with
      | int => exact absurd rfl n1
      | bool => exact absurd rfl n2
      | vrt j => exact absurd (decide_eq_true rfl) c3
      | box j => show on1 _ (tl (Kd.box j).hd _) = _; rw [tl_eq, on1_ne hne]
      | vec j => show on1 _ (tl (Kd.vec j).hd _) = _; rw [tl_eq, on1_ne hne]
      | rcd j => show on1 _ (tl (Kd.rcd j).hd _) = _; rw [tl_eq, on1_ne hne]
      | rf j => rfl
      | mt j => rfl
    rw [E0] at q
    exact q H (Same.refl H)
  obtain ⟨x, rfl⟩ : ∃ x, rest = [x] := by
    match rest, c with
    | [x], _ => exact ⟨x, rfl⟩
    | [], c => exact absurd rfl c
    | _ :: _ :: r, c => exact absurd (by simp; omega) c
  have hgx : gd W m x := hds x (by simp)
  refine ⟨_, rfl, rfl, kd, hk, _, _, rfl, rfl, _, rfl, ite2 (fun c => ?_) (fun c4 => ?_)⟩
  · obtain ⟨j, rfl⟩ := hd_rcd c
    have hn : j < B.rs.length := hf
    obtain ⟨fs, e⟩ : ∃ fs, B.rs[j]? = some fs := ⟨_, List.getElem?_eq_getElem hn⟩
    have hfs := O.rf j fs e
    have E0 : isVF B (m + 1) (.rcd j) (.tuple (.str (Kd.rcd j).hd :: [x])) = onT x (fun ds => allF (isVF B m) fs ds) := by
      show on1 _ (tl (Kd.rcd j).hd _) = _
      rw [tl_eq, getD_of e]
      rfl
    rw [E0] at q
    refine ⟨b, rfl, b, rfl, _, 0, _, hb, rfl, rfl, fun z hz => ⟨_, rfl, _, 1, _, hk, rfl, rfl, fun z2 hz2 => ?_⟩⟩
    cases hz2
    refine ⟨_, j, _, hz, rfl, rs_at e, fun z3 hz3 => ⟨v, rfl, _, 1, x, hv, rfl, rfl, fun zx hzx => ?_⟩⟩
    exact ⟨m, Nat.lt_succ_self m, b, z3, zx, fs, x, rfl, hb, hz3, fun kf hkf => (hfs.2 kf hkf).fits, hzx, gd.mono (Nat.le_refl _) hgx (by omega), q⟩
  refine ⟨_, rfl, rfl, kd, hk, _, _, rfl, rfl, _, rfl, ite2 (fun c => ?_) (fun c5 => ?_)⟩
  · obtain ⟨j, rfl⟩ := hd_box c
    have E0 : isVF B (m + 1) (.box j) (.tuple (.str (Kd.box j).hd :: [x])) = isVF B m j x := by
      show on1 _ (tl (Kd.box j).hd _) = _
      rw [tl_eq]
      rfl
    rw [E0] at q
    exact ⟨b, rfl, _, rfl, _, 1, _, hk, rfl, rfl, fun z hz => ⟨v, rfl, _, 1, x, hv, rfl, rfl, fun zx hzx => ⟨m, Nat.lt_succ_self m, b, z, zx, j, x, rfl, hb, hz, hf, hzx, hgx, q⟩⟩⟩
  obtain ⟨j, rfl⟩ : ∃ j, kd = .vec j := by
    cases kd with
    | vec j => exact ⟨j, rfl⟩
    | int => exact absurd rfl n1
    | bool => exact absurd rfl n2
    | vrt j => exact absurd (decide_eq_true rfl) c3
    | rcd j => exact absurd (decide_eq_true rfl) c4
    | box j => exact absurd (decide_eq_true rfl) c5
    | rf j => exact hf.elim
    | mt j => exact hf.elim
  have E0 : isVF B (m + 1) (.vec j) (.tuple (.str (Kd.vec j).hd :: [x])) = onT x (fun ds => ds.all (isVF B m j)) := by
    show on1 _ (tl (Kd.vec j).hd _) = _
    rw [tl_eq]
    rfl
  rw [E0] at q
  refine ⟨v, rfl, _, 1, x, hv, rfl, rfl, fun zx hzx => ⟨zx, x, rfl, hzx, _, rfl, ite2 (fun c => ?_) (fun c => ?_)⟩⟩
  · obtain ⟨ds, rfl⟩ : ∃ ds, x = .tuple ds := by cases x <;> first | exact ⟨_, rfl⟩ | cases c
    obtain ⟨m', rfl, hwx, hdx⟩ := gd_tup hgx
    refine ⟨b, rfl, _, rfl, _, 1, _, hk, rfl, rfl, fun z hz => ⟨(by show 1 ≤ sizeLine; decide), fun p np => ?_⟩⟩
    have sp : Same H (upd H p (.tup [z])) := same_new np _
    have hv1 := Tp.mono (TSt.of sp) _ _ hv
    refine ⟨v, rfl, _, 1, .tuple ds, hv1, rfl, rfl, fun zy hzy => ⟨zy, ds, rfl, hzy, kdD j, ds.length, .tup upd_same (.cons (Tp.mono (TSt.of sp) _ _ hz) .nil), rfl, by omega, fun zk H2 s2 hzk => ?_⟩⟩
    refine ⟨v, rfl, _, 1, .tuple ds, Tp.mono (TSt.of s2) _ _ hv1, rfl, rfl, fun zw hzw => ?_⟩
    refine ⟨m' + 1, Nat.lt_succ_self _, b, zk, zw, List.replicate ds.length j, .tuple ds, rfl, Tp.mono (TSt.of (sp.trans s2)) _ _ hb, by rw [List.map_replicate]; exact hzk, fun kf hkf => by rw [(List.mem_replicate.mp hkf).2]; exact hf, hzw, gd.mono (Nat.le_refl _) hgx (by omega), fun H' s' => ?_⟩
    have e : onT (.tuple ds) (fun ds => ds.all (isVF B (m' + 1) j)) = onT (.tuple ds) (fun es => allF (isVF B (m' + 1)) (List.replicate ds.length j) es) := (allF_rep _ _ _).symm
    rw [e] at q
    exact q H' ((sp.trans s2).trans s')
  · have e : onT x (fun ds => ds.all (isVF B m j)) = false := by
      cases x with
      | tuple ds => exact absurd rfl c
      | _ => rfl
    rw [e] at q
    exact q H (Same.refl H)
theorem all_lIs {B : Bk} (O : B.Ok) {W : Nat} (hW : W ≤ 100) {f g : Addr} {fd gd' : FuncData} (D : Df K mg "_law_is_value" sLIsVal pLIs f fd) (N : Nm K w mg) (Da : Df K mg "_law_all_are" sAllAre pLAre g gd') :
    ∀ n, n ≤ 64 → FnOk P w K mg base CX0 (2 * n + 2) f fd pLIs (spIsV B W n) ∧ FnOk P w K mg base CX0 (2 * n + 3) g gd' pLAre (spAreV B W n) := fun n =>
  Nat.strongRecOn n fun n ih hn => by
    have G := ok_lIs O (k := 2 * n + 1) hn hW D N Da (FnOk.below fun m hm => ((ih m hm (by omega)).1).mono (by omega)) (FnOk.below fun m hm => ((ih m hm (by omega)).2).mono (by omega))
    exact ⟨G, ok_lAre hW Da N D G⟩
end
end My
set_option maxRecDepth 100000
set_option maxHeartbeats 4000000
namespace My
open PySem L2
/-! ### the draws -/
theorem row_at : ¬ (Sum.inr ("row" : Str) : Key) = Sum.inr ("at" : Str) := fun h => absurd (Sum.inr.inj h) (by decide +kernel)
theorem val_row (r v : V) : valV [((Sum.inr ("row" : Str) : Key), r), (Sum.inr ("at" : Str), v)] (Sum.inr ("row" : Str)) = some r := valV_pos rfl
theorem val_at (r v : V) : valV [((Sum.inr ("row" : Str) : Key), r), (Sum.inr ("at" : Str), v)] (Sum.inr ("at" : Str)) = some v := by rw [valV_neg row_at, valV_pos rfl]
theorem put_at (r v u : V) : putK [((Sum.inr ("row" : Str) : Key), r), (Sum.inr ("at" : Str), v)] (Sum.inr ("at" : Str)) u = [((Sum.inr ("row" : Str) : Key), r), (Sum.inr ("at" : Str), u)] := by
  have n := row_at
  simp [putK, n]
theorem pick {xs : List V} {n : Nat} (x : Int) (hl : xs.length = n) (hn : 0 < n) : ∃ v, v ∈ xs ∧ atI xs (x % ((n : Nat) : Int)) = some v := by
  have h1 := Int.emod_nonneg x (show ((n : Nat) : Int) ≠ 0 by omega)
  have h2 := Int.emod_lt_of_pos x (show (0 : Int) < ((n : Nat) : Int) by omega)
  obtain ⟨j, hj⟩ : ∃ j : Nat, x % ((n : Nat) : Int) = (j : Int) := ⟨(x % ((n : Nat) : Int)).toNat, by omega⟩
  rw [hj]
  have hjl : j < xs.length := by omega
  exact ⟨xs[j], List.getElem_mem hjl, atI_nat (List.getElem?_eq_getElem hjl)⟩
theorem cutV_pre (xs : List V) (n : Nat) : cutV xs none (some ((n : Nat) : Int)) = xs.take n := by
  unfold cutV
  rw [HT.sIx_none, HT.sIx_nat, List.drop_zero, Nat.sub_zero]
  by_cases h : n ≤ xs.length
  · rw [Nat.min_eq_left h]
  · rw [Nat.min_eq_right (by omega), List.take_length, List.take_of_length_le (by omega)]
section
variable {P : Program} {w : World} {K : PySem.W.Frag} {mg : Str → Option Value} {base : Heap}
abbrev nTake : List Str := ["_law_d", "_law_at"]
theorem scTake : FnScope nTake ["_law_d"] (defScope sTake) := ⟨rfl, rfl, rfl, by decide +kernel, rfl, by decide +kernel, by decide +kernel⟩
def spTake : Sp := fun vs H Q _ => ∃ dd rr, vs = [.ref dd] ∧ Dr H dd rr ∧ ∀ (x : Int) H', 0 ≤ x → St1 dd H H' → Dr H' dd rr → Q (.int x) H'
theorem ok_take {f : Addr} {fd : FuncData} (D : Df K mg "_law_take" sTake ["_law_d"] f fd) (N : Nm K w mg) : FnOk P w K mg base CX0 1 f fd ["_law_d"] spTake := by
  refine D.F.ok scTake (fun vs H Q E h => ?_) (fun cdv A outer s H vs Q E hr h => ?_)
  · obtain ⟨dd, rr, rfl, _⟩ := h
    rfl
  obtain ⟨dd, r, rfl, ⟨row, n, ed, hn, er, hl, hp⟩, q⟩ := h
  have hu := hu_of hr
  refine ⟨_, pss_cons (ps_set (i := 1) scTake.nd rfl (Or.inl rfl) (pe_callTy call_int1 (by rfl) N.int PyProof.Rows.boot_int (pa_cons (pe_dget hu (pv 0) (pe_str) (fun _ _ => rfl)) (pa_nil)))) (pss_cons (ps_dput hu (pv 0) (pe_str) (pe_op op_add (pv 1) (pe_int)) rfl) (pss_one (ps_ret (pe_op op_add (pe_callTy call_int1 (by rfl) N.int PyProof.Rows.boot_int (pa_cons (pe_ix ix_list (pe_dget hu (pv 0) (pe_str) (fun _ _ => rfl)) (pe_op op_mod (pv 1) (pe_int)) (fun _ _ => rfl)) (pa_nil))) (pe_op op_fdiv (pv 1) (pe_int)))))), ?_⟩
  have gA := DGet.k (k := Sum.inr ("at" : Str)) ed
  rw [val_at] at gA
  have dp := DPut.k (k := Sum.inr ("at" : Str)) (v := .int (n + 1)) ed (by show 2 < sizeLine; decide)
  rw [put_at] at dp
  refine ⟨_, rfl, dd, _, rfl, gA, .inl ⟨n, rfl, _, rfl, _, _, rfl, rfl, .ref dd, rfl, dd, _, rfl, dp, ?_⟩⟩
  have nrd : r ≠ dd := ne_of er ed (by intro z; cases z)
  have e1 : (upd H dd (.dK [(.inr "row", .ref r), (.inr "at", .int (n + 1))])) dd = some (.dK [(.inr "row", .ref r), (.inr "at", .int (n + 1))]) := upd_same
  have e2 : (upd H dd (.dK [(.inr "row", .ref r), (.inr "at", .int (n + 1))])) r = some (.lst (row.map V.int)) := by rw [upd_ne nrd]; exact er
  have gR := DGet.k (k := Sum.inr ("row" : Str)) e1
  rw [val_row] at gR
  obtain ⟨u, hu1, hu2⟩ := pick (xs := row.map V.int) (n := 400) n (by rw [List.length_map]; exact hl) (by decide)
  obtain ⟨i, hi, rfl⟩ := List.mem_map.mp hu1
  refine ⟨.ref dd, rfl, dd, .ref r, rfl, gR, .int n, rfl, _, _, rfl, rfl, (by show (0 : Int) < 400; decide), r, _, _, _, rfl, rfl, SqL.of e2, hu2, .inl ⟨i, rfl, .int n, rfl, _, _, rfl, rfl, ⟨by decide, by decide⟩, _, _, rfl, rfl, ?_⟩⟩
  refine q _ _ ?_ ((St1.refl dd H).upd) ⟨row, n + 1, e1, by omega, e2, hl, hp⟩
  have a1 := hp i hi
  have a2 := Int.ediv_nonneg hn (show (0 : Int) ≤ 400 by decide)
  omega
abbrev nDraws : List Str := ["_law_script", "_law_many", "_law_draws_here", "_law_mixed", "_law_k", "_law_cell", "_law_rest", "_law_turn"]
theorem scDraws : FnScope nDraws ["_law_script", "_law_many"] (defScope sDraws) := ⟨rfl, rfl, rfl, by decide +kernel, rfl, by decide +kernel, by decide +kernel⟩
def spDraws (K : PySem.W.Frag) : Sp := fun vs H Q _ => ∃ (a : Addr) (ns : List Int), vs = [.ref a, .int 400] ∧ SqL K H a (ns.map V.int) ∧ ns.length ≤ 63 ∧ ∀ (p : Addr) H' (row : List Int), Same H H' → H' p = some (.lst (row.map V.int)) → row.length = 400 → (∀ x ∈ row, 0 ≤ x) → Q (.ref p) H'
theorem ok_draws {f : Addr} {fd : FuncData} (D : Df K mg "_law_draws" sDraws ["_law_script", "_law_many"] f fd) (N : Nm K w mg) : FnOk P w K mg base CX0 1 f fd ["_law_script", "_law_many"] (spDraws K) := by
  refine D.F.ok scDraws (fun vs H Q E h => ?_) (fun cdv A outer s H vs Q E hr h => ?_)
  · obtain ⟨a, ns, rfl, _⟩ := h
    rfl
  obtain ⟨a, ns, rfl, hS, h63, q⟩ := h
  refine ⟨_, pss_cons (ps_set (i := 2) scDraws.nd rfl (Or.inl rfl) (pe_lst (pa_nil))) (pss_cons (ps_set (i := 3) scDraws.nd rfl (Or.inl rfl) (pe_int)) (pss_cons (ps_for PassesOwn.never rfl (pi_range1 rfl N.range (pa_cons (pe_callB call_len_seq (by rfl) N.len PySem.boot_len (pa_cons (pv 0) (pa_nil))) (pa_nil))) (pg_name (i := 4) scDraws.nd rfl (Or.inl rfl)) (pss_cons (ps_set (i := 5) scDraws.nd rfl (Or.inl rfl) (pe_callB (call_abs) (by rfl) N.abs PyProof.Rows.boot_abs (pa_cons (pe_callTy call_int1 (by rfl) N.int PyProof.Rows.boot_int (pa_cons (pe_ix ix_list (pv 0) (pv 4) (fun _ _ => rfl)) (pa_nil))) (pa_nil)))) (pss_cons (ps_set (i := 3) scDraws.nd rfl (Or.inl rfl) (pe_op op_mod (pe_callTy call_int1 (by rfl) N.int PyProof.Rows.boot_int (pa_cons (pe_op op_add (pe_op op_add (pe_op op_mul (pv 3) (pe_int)) (pe_op op_mod (pv 5) (pe_int))) (pv 4)) (pa_nil))) (pe_int))) (pss_cons (ps_set (i := 6) scDraws.nd rfl (Or.inl rfl) (pe_int)) (pss_cons (ps_if (pt_cmpR op_ge (pv 5) (pe_op op_pow (pe_int) (pe_int)) (nomark _)) (pss_one (ps_set (i := 6) scDraws.nd rfl (Or.inl rfl) (pv 5))) (pss_cons (ps_expr (pe_bm PySem.F.plainAttrs_list PySem.F.slot_list_append PySem.F.type_list_append mt_append (pv 2) (pa_cons (pe_op op_mod (pe_callTy call_int1 (by rfl) N.int PyProof.Rows.boot_int (pa_cons (pv 5) (pa_nil))) (pe_int)) (pa_nil)))) (pss_one (ps_expr (pe_bm PySem.F.plainAttrs_list PySem.F.slot_list_append PySem.F.type_list_append mt_append (pv 2) (pa_cons (pe_op op_mod (pe_op op_mod (pe_callTy call_int1 (by rfl) N.int PyProof.Rows.boot_int (pa_cons (pe_op op_add (pe_op op_mul (pv 3) (pe_int)) (pe_int)) (pa_nil))) (pe_int)) (pe_int)) (pa_nil))))))) (pss_one (ps_for PassesOwn.never rfl (pi_range1 rfl N.range (pa_cons (pe_int) (pa_nil))) (pg_name (i := 7) scDraws.nd rfl (Or.inl rfl)) (pss_one (ps_if (pt_cmpR op_gt (pv 6) (pe_int) (nomark _)) (pss_cons (ps_expr (pe_bm PySem.F.plainAttrs_list PySem.F.slot_list_append PySem.F.type_list_append mt_append (pv 2) (pa_cons (pe_op op_mod (pe_callTy call_int1 (by rfl) N.int PyProof.Rows.boot_int (pa_cons (pv 6) (pa_nil))) (pe_int)) (pa_nil)))) (pss_one (ps_set (i := 6) scDraws.nd rfl (Or.inl rfl) (pe_op op_fdiv (pv 6) (pe_int))))) pss_nil))))))))) (pss_cons (ps_for PassesOwn.never rfl (pi_range1 rfl N.range (pa_cons (pv 1) (pa_nil))) (pg_name (i := 4) scDraws.nd rfl (Or.inl rfl)) (pss_cons (ps_set (i := 3) scDraws.nd rfl (Or.inl rfl) (pe_op op_mod (pe_callTy call_int1 (by rfl) N.int PyProof.Rows.boot_int (pa_cons (pe_op op_add (pe_op op_add (pe_op op_mul (pv 3) (pe_int)) (pv 4)) (pe_int)) (pa_nil))) (pe_int))) (pss_one (ps_expr (pe_bm PySem.F.plainAttrs_list PySem.F.slot_list_append PySem.F.type_list_append mt_append (pv 2) (pa_cons (pe_op op_mod (pe_callTy call_int1 (by rfl) N.int PyProof.Rows.boot_int (pa_cons (pv 3) (pa_nil))) (pe_int)) (pa_nil))))))) (pss_one (ps_ret (pe_slice sl_list (pv 2) po_none (po_some (pv 1)))))))), ?_⟩
  -- draws_here = []; mixed = 7
  refine ⟨Nat.zero_le _, fun o no => ?_⟩
  have s0 : Same H (upd H o (.lst [])) := same_new no _
  have hlen : (ns.map V.int).length = ns.length := List.length_map _
  have b62 := len62 (n := (ns.map V.int).length) (by omega)
  refine ⟨.ref a, rfl, a, _, rfl, .inl (s0.seq hS), _, rfl, b62.1, b62.2, for_range0 (fun i σ H' => ∃ (m : Int) (ds : List Int) (x4 x5 x6 x7 : Option V), σ = [some (.ref a), some (.int 400), some (.ref o), some (.int m), x4, x5, x6, x7] ∧ Same H H' ∧ H' o = some (.lst (ds.map V.int)) ∧ ds.length ≤ 62 * i ∧ (∀ x ∈ ds, 0 ≤ x) ∧ 0 ≤ m ∧ m < 65537)
    ⟨7, [], _, _, _, _, rfl, s0, upd_same, Nat.zero_le _, by simp, by decide, by decide⟩ (fun i σ H' hi ⟨m, ds, x4, x5, x6, x7, e, s1, hD, hl, hp, h0, h1⟩ => ?_) (fun σ H' ⟨m, ds, x4, x5, x6, x7, e, s1, hD, hl, hp, h0, h1⟩ => ?_)⟩
  · subst e
    have hi' : i < ns.length := by omega
    obtain ⟨c, hc⟩ : ∃ c, ns[i]? = some c := ⟨_, List.getElem?_eq_getElem hi'⟩
    refine ⟨.ref a, rfl, _, rfl, a, _, _, .int c, rfl, rfl, s1.seq hS, atI_nat (by rw [List.getElem?_map, hc]; rfl), .inl ⟨c, rfl, c, rfl, ?_⟩⟩
    have hc0 : 0 ≤ (if c < 0 then -c else c) := by split <;> omega
    generalize (if c < 0 then -c else c) = cell at hc0
    refine ⟨_, rfl, _, _, rfl, rfl, .inl ⟨by omega, by omega⟩, _, rfl, _, _, rfl, rfl, (by show (0 : Int) < 1000003; decide), _, _, rfl, rfl, _, rfl, _, _, rfl, rfl, .inl ⟨_, rfl, _, _, rfl, rfl, (by show (0 : Int) < 65537; decide), ?_⟩⟩
    have hm0 := Int.emod_nonneg (m * 48271 + cell % 1000003 + ((i : Nat) : Int)) (show (65537 : Int) ≠ 0 by decide)
    have hm1 := Int.emod_lt_of_pos (m * 48271 + cell % 1000003 + ((i : Nat) : Int)) (show (0 : Int) < 65537 by decide)
    refine ⟨_, rfl, _, _, rfl, rfl, ⟨by decide, by decide, by decide⟩, _, _, rfl, rfl, _, rfl, ite2 (fun cc => ?_) (fun cc => ?_)⟩
    · refine ⟨_, rfl, ?_⟩
      have r0 : (0 : Int) ≤ cell := hc0
      have hl2 : ds.length ≤ 62 * i + 2 := by omega
      refine ⟨_, rfl, by decide, by decide, for_range0 (fun j σ H2 => ∃ (r : Int) (ds : List Int) (x7 : Option V), σ = [some (.ref a), some (.int 400), some (.ref o), some (.int ((m * 48271 + cell % 1000003 + ((i : Nat) : Int)) % 65537)), some (.int ((i : Nat) : Int)), some (.int cell), some (.int r), x7] ∧ Same H H2 ∧ H2 o = some (.lst (ds.map V.int)) ∧ ds.length ≤ 62 * i + 2 + j ∧ (∀ x ∈ ds, 0 ≤ x) ∧ 0 ≤ r)
        ⟨_, _, _, rfl, s1, hD, by omega, hp, r0⟩ (fun j σ H2 hj ⟨r, ds, x7, e, s1, hD, hl2, hp, r0⟩ => ?_) (fun σ H2 ⟨r, ds, x7, e, s1, hD, hl2, hp, r0⟩ => ?_)⟩
      · subst e
        have hj' : j < 60 := hj
        refine ⟨_, rfl, _, _, rfl, rfl, _, rfl, ite2 (fun _ => ?_) (fun _ => ?_)⟩
        · have y1 := Int.emod_nonneg r (show (997 : Int) ≠ 0 by decide)
          refine ⟨_, rfl, .inl ⟨rfl, _, SqL.of hD⟩, _, rfl, .inl ⟨_, rfl, _, _, rfl, rfl, (by show (0 : Int) < 997; decide), o, _, _, rfl, rfl, hD, ?_, _, rfl, _, _, rfl, rfl, ⟨by decide, by decide⟩, r / 997, ds ++ [r % 997], _, rfl, Same.writ s1 no _, ?_, ?_, ?_, Int.ediv_nonneg r0 (by decide)⟩⟩
          · rw [List.length_map]
            exact cap_lt (by show ds.length ≤ 1000000; omega)
          · rw [upd_same, List.map_append]
            rfl
          · rw [List.length_append, List.length_singleton]
            omega
          · intro x hx
            rcases List.mem_append.mp hx with h | h
            · exact hp x h
            · rw [List.mem_singleton.mp h]; exact y1
        · exact ⟨r, ds, _, rfl, s1, hD, by omega, hp, r0⟩
      · subst e
        have hl3 : ds.length ≤ 62 * i + 2 + 60 := hl2
        exact ⟨_, ds, _, _, _, _, rfl, s1, hD, by omega, hp, hm0, hm1⟩
    · refine ⟨_, rfl, .inl ⟨rfl, _, SqL.of hD⟩, _, rfl, .inl ⟨_, rfl, _, _, rfl, rfl, (by show (0 : Int) < 997; decide), o, _, _, rfl, rfl, hD, ?_, ?_⟩⟩
      · rw [List.length_map]
        exact cap_lt (by show ds.length ≤ 1000000; omega)
      refine ⟨_, rfl, .inl ⟨rfl, _, SqL.of upd_same⟩, _, rfl, _, _, rfl, rfl, .inl ⟨by omega, by omega⟩, _, _, rfl, rfl, .inl ⟨_, rfl, _, _, rfl, rfl, (by show (0 : Int) < 65521; decide), _, _, rfl, rfl, (by show (0 : Int) < 997; decide), o, _, _, rfl, rfl, upd_same, ?_, ?_⟩⟩
      · rw [List.length_append, List.length_map]
        exact cap_lt (by show ds.length + 1 ≤ 1000000; omega)
      rw [upd_upd]
      have y1 := Int.emod_nonneg cell (show (997 : Int) ≠ 0 by decide)
      have y2 := Int.emod_nonneg ((((m * 48271 + cell % 1000003 + ((i : Nat) : Int)) % 65537) * 69621 + 5) % 65521) (show (997 : Int) ≠ 0 by decide)
      have s1 : Same H (upd H' o (.lst ((ds.map V.int ++ [.int (cell % 997)]) ++ [.int ((((m * 48271 + cell % 1000003 + ((i : Nat) : Int)) % 65537) * 69621 + 5) % 65521 % 997)]))) := Same.writ s1 no _
      have hD : (upd H' o (.lst ((ds.map V.int ++ [.int (cell % 997)]) ++ [.int ((((m * 48271 + cell % 1000003 + ((i : Nat) : Int)) % 65537) * 69621 + 5) % 65521 % 997)]))) o = some (.lst ((ds ++ [(cell % 997), ((((m * 48271 + cell % 1000003 + ((i : Nat) : Int)) % 65537) * 69621 + 5) % 65521 % 997)]).map V.int)) := by
        rw [upd_same, List.map_append, List.append_assoc]
        rfl
      have hl2 : (ds ++ [(cell % 997), ((((m * 48271 + cell % 1000003 + ((i : Nat) : Int)) % 65537) * 69621 + 5) % 65521 % 997)]).length ≤ 62 * i + 2 := by rw [List.length_append]; simp only [List.length_cons, List.length_nil]; omega
      have hp : ∀ x ∈ ds ++ [(cell % 997), ((((m * 48271 + cell % 1000003 + ((i : Nat) : Int)) % 65537) * 69621 + 5) % 65521 % 997)], 0 ≤ x := fun x hx => by
        rcases List.mem_append.mp hx with h | h
        · exact hp x h
        · rcases List.mem_cons.mp h with h | h
          · rw [h]; exact y1
          · rw [List.mem_singleton.mp h]; exact y2
      have r0 : (0 : Int) ≤ 0 := by decide
      refine ⟨_, rfl, by decide, by decide, for_range0 (fun j σ H2 => ∃ (r : Int) (ds : List Int) (x7 : Option V), σ = [some (.ref a), some (.int 400), some (.ref o), some (.int ((m * 48271 + cell % 1000003 + ((i : Nat) : Int)) % 65537)), some (.int ((i : Nat) : Int)), some (.int cell), some (.int r), x7] ∧ Same H H2 ∧ H2 o = some (.lst (ds.map V.int)) ∧ ds.length ≤ 62 * i + 2 + j ∧ (∀ x ∈ ds, 0 ≤ x) ∧ 0 ≤ r)
        ⟨_, _, _, rfl, s1, hD, by omega, hp, r0⟩ (fun j σ H2 hj ⟨r, ds, x7, e, s1, hD, hl2, hp, r0⟩ => ?_) (fun σ H2 ⟨r, ds, x7, e, s1, hD, hl2, hp, r0⟩ => ?_)⟩
      · subst e
        have hj' : j < 60 := hj
        refine ⟨_, rfl, _, _, rfl, rfl, _, rfl, ite2 (fun _ => ?_) (fun _ => ?_)⟩
        · have y1 := Int.emod_nonneg r (show (997 : Int) ≠ 0 by decide)
          refine ⟨_, rfl, .inl ⟨rfl, _, SqL.of hD⟩, _, rfl, .inl ⟨_, rfl, _, _, rfl, rfl, (by show (0 : Int) < 997; decide), o, _, _, rfl, rfl, hD, ?_, _, rfl, _, _, rfl, rfl, ⟨by decide, by decide⟩, r / 997, ds ++ [r % 997], _, rfl, Same.writ s1 no _, ?_, ?_, ?_, Int.ediv_nonneg r0 (by decide)⟩⟩
          · rw [List.length_map]
            exact cap_lt (by show ds.length ≤ 1000000; omega)
          · rw [upd_same, List.map_append]
            rfl
          · rw [List.length_append, List.length_singleton]
            omega
          · intro x hx
            rcases List.mem_append.mp hx with h | h
            · exact hp x h
            · rw [List.mem_singleton.mp h]; exact y1
        · exact ⟨r, ds, _, rfl, s1, hD, by omega, hp, r0⟩
      · subst e
        have hl3 : ds.length ≤ 62 * i + 2 + 60 := hl2
        exact ⟨_, ds, _, _, _, _, rfl, s1, hD, by omega, hp, hm0, hm1⟩
  · subst e
    have hl2 : ds.length ≤ 4000 := by omega
    refine ⟨_, rfl, _, rfl, by decide, by decide, for_range0 (fun j σ H' => ∃ (m : Int) (ds : List Int) (x4 : Option V), σ = [some (.ref a), some (.int 400), some (.ref o), some (.int m), x4, x5, x6, x7] ∧ Same H H' ∧ H' o = some (.lst (ds.map V.int)) ∧ ds.length ≤ 4000 + j ∧ j ≤ ds.length ∧ (∀ x ∈ ds, 0 ≤ x) ∧ 0 ≤ m ∧ m < 65537)
      ⟨m, ds, x4, rfl, s1, hD, hl2, Nat.zero_le _, hp, h0, h1⟩ (fun j σ H2 hj ⟨m, ds, x4, e, s1, hD, hl, hj2, hp, h0, h1⟩ => ?_) (fun σ H2 ⟨m, ds, x4, e, s1, hD, hl, hj2, hp, h0, h1⟩ => ?_)⟩
    · subst e
      have hj' : j < 400 := hj
      refine ⟨_, rfl, _, _, rfl, rfl, .inl ⟨by omega, by omega⟩, _, rfl, _, _, rfl, rfl, _, _, rfl, rfl, .inl ⟨_, rfl, _, _, rfl, rfl, (by show (0 : Int) < 65537; decide), ?_⟩⟩
      have hm0 := Int.emod_nonneg (m * 16807 + ((j : Nat) : Int) + 1) (show (65537 : Int) ≠ 0 by decide)
      have hm1 := Int.emod_lt_of_pos (m * 16807 + ((j : Nat) : Int) + 1) (show (0 : Int) < 65537 by decide)
      have y1 := Int.emod_nonneg ((m * 16807 + ((j : Nat) : Int) + 1) % 65537) (show (997 : Int) ≠ 0 by decide)
      refine ⟨_, rfl, .inl ⟨rfl, _, SqL.of hD⟩, _, rfl, .inl ⟨_, rfl, _, _, rfl, rfl, (by show (0 : Int) < 997; decide), o, _, _, rfl, rfl, hD, ?_, _, ds ++ [((m * 16807 + ((j : Nat) : Int) + 1) % 65537) % 997], _, rfl, Same.writ s1 no _, ?_, ?_, ?_, ?_, hm0, hm1⟩⟩
      · rw [List.length_map]
        exact cap_lt (by show ds.length ≤ 1000000; omega)
      · rw [upd_same, List.map_append]
        rfl
      · rw [List.length_append, List.length_singleton]
        omega
      · rw [List.length_append, List.length_singleton]
        omega
      · intro x hx
        rcases List.mem_append.mp hx with h | h
        · exact hp x h
        · rw [List.mem_singleton.mp h]; exact y1
    · subst e
      have hj3 : 400 ≤ ds.length := hj2
      refine ⟨_, rfl, _, rfl, _, rfl, o, _, rfl, SqL.of hD, fun p np => ?_⟩
      have ec : cutV (ds.map V.int) none (some 400) = (ds.take 400).map V.int := by
        rw [show (some 400 : Option Int) = some ((400 : Nat) : Int) from rfl, cutV_pre, List.map_take]
      refine q p _ (ds.take 400) (s1.trans (same_new np _)) (by rw [upd_same, ec]) (by rw [List.length_take]; omega) fun x hx => hp x (List.mem_of_mem_take hx)
theorem scStart : FnScope ["_law_script"] ["_law_script"] (defScope sStart) := ⟨rfl, rfl, rfl, by decide +kernel, rfl, by decide +kernel, by decide +kernel⟩
def spStart (K : PySem.W.Frag) : Sp := fun vs H Q _ => ∃ (a : Addr) (ns : List Int), vs = [.ref a] ∧ SqL K H a (ns.map V.int) ∧ ns.length ≤ 63 ∧ ∀ (dd rr : Addr) H', Same H H' → Dr H' dd rr → H dd = none → Q (.ref dd) H'
theorem ok_start {f g : Addr} {fd gd' : FuncData} (D : Df K mg "_law_start" sStart ["_law_script"] f fd) (Dd : Df K mg "_law_draws" sDraws ["_law_script", "_law_many"] g gd') (G : FnOk P w K mg base CX0 1 g gd' ["_law_script", "_law_many"] (spDraws K)) : FnOk P w K mg base CX0 2 f fd ["_law_script"] (spStart K) := by
  refine D.F.ok scStart (fun vs H Q E h => ?_) (fun cdv A outer s H vs Q E hr h => ?_)
  · obtain ⟨a, ns, rfl, _⟩ := h
    rfl
  obtain ⟨a, ns, rfl, hS, h63, q⟩ := h
  refine ⟨_, pss_one (ps_ret (pe_disp (pps_cons (pe_str) (cl Dd G hr (pa_cons (pv 0) (pa_cons (pe_int) (pa_nil)))) (pps_cons (pe_str) (pe_int) (pps_nil))) (by rfl) (by rfl) (fun z => by cases z) (by decide))), ?_⟩
  intro p np
  have s1 : Same H (upd H p (.dK [])) := same_new np _
  refine ⟨_, rfl, a, ns, rfl, s1.seq hS, h63, fun r H1 row s2 hr' hl hp => ?_⟩
  have hp1 : H1 p = some (.dK []) := s2 _ _ upd_same
  refine ⟨hp1, [(.inr "row", .ref r), (.inr "at", .int 0)], rfl, (by show 2 ≤ 15; decide), ?_⟩
  have em : mergeK [] [((Sum.inr ("row" : Str) : Key), V.ref r), (.inr "at", .int 0)] = [(.inr "row", .ref r), (.inr "at", .int 0)] := by
    have n := row_at
    simp [mergeK, putK, n]
  rw [em]
  refine q p r _ (Same.writ (s1.trans s2) np _) ⟨row, 0, upd_same, by decide, ?_, hl, hp⟩ np
  rw [upd_ne (ne_of hr' hp1 (by intro z; cases z))]
  exact hr'
end
end My
set_option maxRecDepth 100000
set_option maxHeartbeats 4000000
namespace My
open PySem L2
def Cn (H : Hp) (cc : Addr) (a b : Nat) : Prop := H cc = some (.dK [(.inr "record", .int ((a : Nat) : Int)), (.inr "variant", .int ((b : Nat) : Int))])
theorem rec_var : ¬ (Sum.inr ("record" : Str) : Key) = Sum.inr ("variant" : Str) := fun h => absurd (Sum.inr.inj h) (by decide +kernel)
theorem row_rec : ¬ (Sum.inr ("record" : Str) : Key) = Sum.inr ("row" : Str) := fun h => absurd (Sum.inr.inj h) (by decide +kernel)
theorem val_rec (r v : V) : valV [((Sum.inr ("record" : Str) : Key), r), (Sum.inr ("variant" : Str), v)] (Sum.inr ("record" : Str)) = some r := valV_pos rfl
theorem val_var (r v : V) : valV [((Sum.inr ("record" : Str) : Key), r), (Sum.inr ("variant" : Str), v)] (Sum.inr ("variant" : Str)) = some v := by rw [valV_neg rec_var, valV_pos rfl]
theorem merge_rv (r v : V) : mergeK [] [((Sum.inr ("record" : Str) : Key), r), (Sum.inr ("variant" : Str), v)] = [((Sum.inr ("record" : Str) : Key), r), (Sum.inr ("variant" : Str), v)] := by
  have n := rec_var
  simp [mergeK, putK, n]
theorem Cn.ne {H : Hp} {cc dd rr : Addr} {a b : Nat} (h : Cn H cc a b) (d : Dr H dd rr) : cc ≠ dd := by
  obtain ⟨row, n, e, _⟩ := d
  refine ne_of h e fun z => ?_
  injection z with z
  injection z with z _
  injection z with z _
  exact row_rec z
theorem Cn.st {H H' : Hp} {cc dd rr : Addr} {a b : Nat} (h : Cn H cc a b) (d : Dr H dd rr) (s : St1 dd H H') : Cn H' cc a b := s _ _ h (h.ne d)
theorem Cn.same {H H' : Hp} {cc : Addr} {a b : Nat} (h : Cn H cc a b) (s : Same H H') : Cn H' cc a b := s _ _ h
theorem Dr.nl {H : Hp} {l dd rr : Addr} {xs : List V} (d : Dr H dd rr) (h : H l = some (.lst xs)) : l ≠ dd := by
  obtain ⟨row, n, e, _⟩ := d
  exact ne_of h e (by intro z; cases z)
section
variable {P : Program} {w : World} {K : PySem.W.Frag} {mg : Str → Option Value} {base : Heap}
abbrev pData : List Str := ["_law_d", "_law_counts", "_law_deep"]
abbrev nData : List Str := ["_law_d", "_law_counts", "_law_deep", "_law_turn", "_law_word"]
theorem scData : FnScope nData pData (defScope sData) := ⟨rfl, rfl, rfl, by decide +kernel, rfl, by decide +kernel, by decide +kernel⟩
def spData (a b n : Nat) : Sp := fun vs H Q _ => ∃ (dd rr cc : Addr) (deep : Int), vs = [.ref dd, .ref cc, .int deep] ∧ deep = ((n : Nat) : Int) ∧ Dr H dd rr ∧ Cn H cc a b ∧ 1 ≤ a ∧ 1 ≤ b ∧
  ∀ v (kd : Kd) H', St1 dd H H' → Dr H' dd rr → Tp H' v (kdD kd) → kd.fits a b → kd.wt ≤ n + 1 → kd.dep ≤ n + 1 → Q v H'
theorem ok_data {a b n k : Nat} (hk1 : 1 ≤ k) {f f1 : Addr} {fd d1 : FuncData} (D : Df K mg "_law_data" sData pData f fd) (N : Nm K w mg) (Dt : Df K mg "_law_take" sTake ["_law_d"] f1 d1)
    (G : FnOk P w K mg base CX0 k f fd pData (fun vs H Q E => ∃ m, m < n ∧ spData a b m vs H Q E)) : FnOk P w K mg base CX0 (k + 1) f fd pData (spData a b n) := by
  have Gt := (ok_take (P := P) (base := base) Dt N).mono hk1
  refine D.F.ok scData (fun vs H Q E h => ?_) (fun cdv A outer s H vs Q E hr h => ?_)
  · obtain ⟨dd, rr, cc, deep, rfl, _⟩ := h
    rfl
  obtain ⟨dd, rr, cc, deep, rfl, rfl, hd, hc, ha, hb, q⟩ := h
  have hu := hu_of hr
  refine ⟨_, pss_cons (ps_set (i := 3) scData.nd rfl (Or.inl rfl) (pe_op op_mod (cl Dt Gt hr (pa_cons (pv 0) (pa_nil))) (pe_int))) (pss_cons (ps_if (PW.pt (pw_or (pt_cmpR op_lt (pv 2) (pe_int) (nomark _)) (pw_or1 (pt_cmpR op_lt (pv 3) (pe_int) (nomark _))))) (pss_one (ps_ret (pe_ix ix_list (pe_lst (pa_cons (pe_tup (pa_cons (pe_str) (pa_nil))) (pa_cons (pe_tup (pa_cons (pe_str) (pa_nil))) (pa_nil)))) (pe_op op_mod (cl Dt Gt hr (pa_cons (pv 0) (pa_nil))) (pe_int)) (fun _ _ => rfl)))) pss_nil) (pss_cons (ps_if (pt_cmpR op_lt (pv 3) (pe_int) (nomark _)) (pss_one (ps_ret (pe_tup (pa_cons (pe_str) (pa_cons (cl D G hr (pa_cons (pv 0) (pa_cons (pv 1) (pa_cons (pe_op op_sub (pv 2) (pe_int)) (pa_nil))))) (pa_nil)))))) pss_nil) (pss_cons (ps_if (pt_cmpR op_lt (pv 3) (pe_int) (nomark _)) (pss_one (ps_ret (pe_tup (pa_cons (pe_str) (pa_cons (cl D G hr (pa_cons (pv 0) (pa_cons (pv 1) (pa_cons (pe_op op_sub (pv 2) (pe_int)) (pa_nil))))) (pa_nil)))))) pss_nil) (pss_cons (ps_set (i := 4) scData.nd rfl (Or.inl rfl) (pe_ix ix_list (pe_lst (pa_cons (pe_str) (pa_cons (pe_str) (pa_nil)))) (pe_op op_mod (cl Dt Gt hr (pa_cons (pv 0) (pa_nil))) (pe_int)) (fun _ _ => rfl))) (pss_one (ps_ret (pe_tup (pa_cons (pv 4) (pa_cons (pe_op op_mod (cl Dt Gt hr (pa_cons (pv 0) (pa_nil))) (pe_dget hu (pv 1) (pv 4) (fun _ _ => rfl))) (pa_nil)))))))))), ?_⟩
  refine ⟨_, rfl, dd, rr, rfl, hd, fun x H1 hx s1 d1 => ⟨_, _, rfl, rfl, (by show (0 : Int) < 8; decide), ?_⟩⟩
  have s1c := hc.st hd s1
  refine ⟨_, rfl, _, _, rfl, rfl, _, rfl, ite2 (fun c => ?_) (fun c => ⟨_, rfl, _, _, rfl, rfl, _, rfl, ite2 (fun c2 => ?_) (fun c2 => ?_)⟩)⟩
  · refine ⟨(by show 1 ≤ sizeLine; decide), fun p1 n1 => ⟨(by show 1 ≤ sizeLine; decide), fun p2 n2 => ⟨(by show 2 ≤ sizeLine; decide), fun l nl => ?_⟩⟩⟩
    have sc : Same H1 (upd (upd (upd H1 p1 (.tup [.str "int"])) p2 (.tup [.str "bool"])) l (.lst [.ref p1, .ref p2])) := ((same_new n1 _).trans (same_new n2 _)).trans (same_new nl _)
    have t1 : (upd (upd (upd H1 p1 (.tup [.str "int"])) p2 (.tup [.str "bool"])) l (.lst [.ref p1, .ref p2])) p1 = some (.tup [.str "int"]) := ((same_new n2 _).trans (same_new nl _)) _ _ upd_same
    have t2 : (upd (upd (upd H1 p1 (.tup [.str "int"])) p2 (.tup [.str "bool"])) l (.lst [.ref p1, .ref p2])) p2 = some (.tup [.str "bool"]) := (same_new nl _) _ _ upd_same
    have t3 : (upd (upd (upd H1 p1 (.tup [.str "int"])) p2 (.tup [.str "bool"])) l (.lst [.ref p1, .ref p2])) l = some (.lst [.ref p1, .ref p2]) := upd_same
    have dc := d1.same sc
    refine ⟨_, rfl, dd, rr, rfl, dc, fun x2 H5 hx2 s5 d5 => ⟨_, _, rfl, rfl, (by show (0 : Int) < 2; decide), ?_⟩⟩
    obtain ⟨v, hv1, hv2⟩ := pick (xs := [V.ref p1, V.ref p2]) (n := 2) x2 rfl (by decide)
    refine ⟨l, _, _, v, rfl, rfl, SqL.of (s5 l _ t3 (dc.nl t3)), hv2, ?_⟩
    have ts5 := dc.ts s5
    have st : St1 dd H H5 := (s1.trans (St1.of sc)).trans s5
    rcases List.mem_cons.mp hv1 with rfl | hv1
    · exact q (.ref p1) .int H5 st d5 (.tup (ts5 _ _ t1) (.cons (.str _) .nil)) trivial (Nat.zero_le _) (by simp [Kd.dep])
    · obtain rfl := List.mem_singleton.mp hv1
      exact q (.ref p2) .bool H5 st d5 (.tup (ts5 _ _ t2) (.cons (.str _) .nil)) trivial (Nat.zero_le _) (by simp [Kd.dep])
  · refine ⟨(by show 1 ≤ sizeLine; decide), fun p1 n1 => ⟨(by show 1 ≤ sizeLine; decide), fun p2 n2 => ⟨(by show 2 ≤ sizeLine; decide), fun l nl => ?_⟩⟩⟩
    have sc : Same H1 (upd (upd (upd H1 p1 (.tup [.str "int"])) p2 (.tup [.str "bool"])) l (.lst [.ref p1, .ref p2])) := ((same_new n1 _).trans (same_new n2 _)).trans (same_new nl _)
    have t1 : (upd (upd (upd H1 p1 (.tup [.str "int"])) p2 (.tup [.str "bool"])) l (.lst [.ref p1, .ref p2])) p1 = some (.tup [.str "int"]) := ((same_new n2 _).trans (same_new nl _)) _ _ upd_same
    have t2 : (upd (upd (upd H1 p1 (.tup [.str "int"])) p2 (.tup [.str "bool"])) l (.lst [.ref p1, .ref p2])) p2 = some (.tup [.str "bool"]) := (same_new nl _) _ _ upd_same
    have t3 : (upd (upd (upd H1 p1 (.tup [.str "int"])) p2 (.tup [.str "bool"])) l (.lst [.ref p1, .ref p2])) l = some (.lst [.ref p1, .ref p2]) := upd_same
    have dc := d1.same sc
    refine ⟨_, rfl, dd, rr, rfl, dc, fun x2 H5 hx2 s5 d5 => ⟨_, _, rfl, rfl, (by show (0 : Int) < 2; decide), ?_⟩⟩
    obtain ⟨v, hv1, hv2⟩ := pick (xs := [V.ref p1, V.ref p2]) (n := 2) x2 rfl (by decide)
    refine ⟨l, _, _, v, rfl, rfl, SqL.of (s5 l _ t3 (dc.nl t3)), hv2, ?_⟩
    have ts5 := dc.ts s5
    have st : St1 dd H H5 := (s1.trans (St1.of sc)).trans s5
    rcases List.mem_cons.mp hv1 with rfl | hv1
    · exact q (.ref p1) .int H5 st d5 (.tup (ts5 _ _ t1) (.cons (.str _) .nil)) trivial (Nat.zero_le _) (by simp [Kd.dep])
    · obtain rfl := List.mem_singleton.mp hv1
      exact q (.ref p2) .bool H5 st d5 (.tup (ts5 _ _ t2) (.cons (.str _) .nil)) trivial (Nat.zero_le _) (by simp [Kd.dep])
  have hn : 1 ≤ n := by
    have c' : ¬ ((n : Nat) : Int) < 1 := of_decide_eq_false (Bool.eq_false_iff.mpr c)
    omega
  refine ⟨_, rfl, _, _, rfl, rfl, _, rfl, ite2 (fun c => ?_) (fun c => ?_)⟩
  · skip
    refine ⟨_, rfl, _, rfl, _, rfl, _, _, rfl, rfl, n - 1, by omega, dd, rr, cc, ((n : Nat) : Int) - 1, rfl, by omega, d1, s1c, ha, hb, fun v kd H2 s2 d2 tv hf hw hdp => ⟨(by show 2 ≤ sizeLine; decide), fun p np => ?_⟩⟩
    exact q (.ref p) (.box kd) _ ((s1.trans s2).new np _) (d2.same (same_new np _)) (.tup upd_same (.cons (.str _) (.cons (Tp.mono (TSt.of (same_new np _)) _ _ tv) .nil))) hf (by simp only [Kd.wt]; omega) (by simp only [Kd.dep]; omega)
  refine ⟨_, rfl, _, _, rfl, rfl, _, rfl, ite2 (fun c => ?_) (fun c => ?_)⟩
  · skip
    refine ⟨_, rfl, _, rfl, _, rfl, _, _, rfl, rfl, n - 1, by omega, dd, rr, cc, ((n : Nat) : Int) - 1, rfl, by omega, d1, s1c, ha, hb, fun v kd H2 s2 d2 tv hf hw hdp => ⟨(by show 2 ≤ sizeLine; decide), fun p np => ?_⟩⟩
    exact q (.ref p) (.vec kd) _ ((s1.trans s2).new np _) (d2.same (same_new np _)) (.tup upd_same (.cons (.str _) (.cons (Tp.mono (TSt.of (same_new np _)) _ _ tv) .nil))) hf (by simp only [Kd.wt]; omega) (by simp only [Kd.dep]; omega)
  refine ⟨(by show 2 ≤ sizeLine; decide), fun l nl => ?_⟩
  have sl : Same H1 (upd H1 l (.lst [.str "record", .str "variant"])) := same_new nl _
  have t3 : (upd H1 l (.lst [.str "record", .str "variant"])) l = some (.lst [.str "record", .str "variant"]) := upd_same
  have dl := d1.same sl
  refine ⟨_, rfl, dd, rr, rfl, dl, fun x2 H5 hx2 s5 d5 => ⟨_, _, rfl, rfl, (by show (0 : Int) < 2; decide), ?_⟩⟩
  obtain ⟨v, hv1, hv2⟩ := pick (xs := [V.str "record", V.str "variant"]) (n := 2) x2 rfl (by decide)
  refine ⟨l, _, _, v, rfl, rfl, SqL.of (s5 l _ t3 (dl.nl t3)), hv2, ?_⟩
  have st : St1 dd H H5 := (s1.trans (St1.of sl)).trans s5
  have c5 := (s1c.same sl).st dl s5
  refine ⟨v, rfl, _, rfl, dd, rr, rfl, d5, fun x3 H6 hx3 s6 d6 => ?_⟩
  have c6 := c5.st d5 s6
  rcases List.mem_cons.mp hv1 with rfl | hv1
  · have g := DGet.k (k := Sum.inr ("record" : Str)) c6
    rw [val_rec] at g
    refine ⟨_, rfl, _, rfl, cc, _, rfl, g, _, _, rfl, rfl, (by show (0 : Int) < ((a : Nat) : Int); omega), (by show 2 ≤ sizeLine; decide), fun p np => ?_⟩
    have h1 := Int.emod_nonneg x3 (show ((a : Nat) : Int) ≠ 0 by omega)
    have h2 := Int.emod_lt_of_pos x3 (show (0 : Int) < ((a : Nat) : Int) by omega)
    obtain ⟨j, hj⟩ : ∃ j : Nat, x3 % ((a : Nat) : Int) = (j : Int) := ⟨(x3 % ((a : Nat) : Int)).toNat, by omega⟩
    refine q (.ref p) (.rcd j) _ ((st.trans s6).new np _) (d6.same (same_new np _)) (.tup upd_same (.cons (.str _) (.cons ?_ .nil))) (show j < a by omega) (by simp only [Kd.wt]; omega) (by simp only [Kd.dep]; omega)
    show Tp _ (.int (x3 % ((a : Nat) : Int))) _
    rw [hj]
    exact .int _
  · obtain rfl := List.mem_singleton.mp hv1
    have g := DGet.k (k := Sum.inr ("variant" : Str)) c6
    rw [val_var] at g
    refine ⟨_, rfl, _, rfl, cc, _, rfl, g, _, _, rfl, rfl, (by show (0 : Int) < ((b : Nat) : Int); omega), (by show 2 ≤ sizeLine; decide), fun p np => ?_⟩
    have h1 := Int.emod_nonneg x3 (show ((b : Nat) : Int) ≠ 0 by omega)
    have h2 := Int.emod_lt_of_pos x3 (show (0 : Int) < ((b : Nat) : Int) by omega)
    obtain ⟨j, hj⟩ : ∃ j : Nat, x3 % ((b : Nat) : Int) = (j : Int) := ⟨(x3 % ((b : Nat) : Int)).toNat, by omega⟩
    refine q (.ref p) (.vrt j) _ ((st.trans s6).new np _) (d6.same (same_new np _)) (.tup upd_same (.cons (.str _) (.cons ?_ .nil))) (show j < b by omega) (by simp only [Kd.wt]; omega) (by simp only [Kd.dep]; omega)
    show Tp _ (.int (x3 % ((b : Nat) : Int))) _
    rw [hj]
    exact .int _
theorem all_data {a b : Nat} {f f1 : Addr} {fd d1 : FuncData} (D : Df K mg "_law_data" sData pData f fd) (N : Nm K w mg) (Dt : Df K mg "_law_take" sTake ["_law_d"] f1 d1) : ∀ n, FnOk P w K mg base CX0 (n + 2) f fd pData (spData a b n) := fun n =>
  Nat.strongRecOn n fun n ih => ok_data (by omega) D N Dt (FnOk.below fun m hm => (ih m hm).mono (by omega))
abbrev pInside : List Str := ["_law_d", "_law_counts", "_law_before"]
abbrev nInside : List Str := ["_law_d", "_law_counts", "_law_before", "_law_turn"]
theorem scInside : FnScope nInside pInside (defScope sInside) := ⟨rfl, rfl, rfl, by decide +kernel, rfl, by decide +kernel, by decide +kernel⟩
def spInside (a b r : Nat) : Sp := fun vs H Q _ => ∃ (dd rr cc bf : Addr) (xs : List V) (ks : List Kd), vs = [.ref dd, .ref cc, .ref bf] ∧ Dr H dd rr ∧ Cn H cc a b ∧ 1 ≤ a ∧ 1 ≤ b ∧ H bf = some (.lst xs) ∧ TpAll H xs (ks.map kdD) ∧ (∀ kd ∈ ks, Good a b r kd) ∧
  ∀ v (kd : Kd) H', St1 dd H H' → Dr H' dd rr → Tp H' v (kdD kd) → Good a b r kd → Q v H'
theorem ok_inside {a b r k : Nat} (hk1 : 1 ≤ k) {f f1 f2 : Addr} {fd d1 d2 : FuncData} (D : Df K mg "_law_inside" sInside pInside f fd) (N : Nm K w mg) (Dt : Df K mg "_law_take" sTake ["_law_d"] f1 d1) (Dd : Df K mg "_law_data" sData pData f2 d2)
    (Gd : FnOk P w K mg base CX0 k f2 d2 pData (spData a b 2)) : FnOk P w K mg base CX0 (k + 1) f fd pInside (spInside a b r) := by
  have Gt := (ok_take (P := P) (base := base) Dt N).mono hk1
  refine D.F.ok scInside (fun vs H Q E h => ?_) (fun cdv A outer s H vs Q E hr h => ?_)
  · obtain ⟨dd, rr, cc, bf, xs, ks, rfl, _⟩ := h
    rfl
  obtain ⟨dd, rr, cc, bf, xs, ks, rfl, hd, hc, ha, hb, hbf, hxs, hks, q⟩ := h
  have hu := hu_of hr
  refine ⟨_, pss_cons (ps_set (i := 3) scInside.nd rfl (Or.inl rfl) (pe_op op_mod (cl Dt Gt hr (pa_cons (pv 0) (pa_nil))) (pe_int))) (pss_cons (ps_if (PW.pt (pw_or (pt_cmpR op_eqI (pv 3) (pe_int) (nomark _)) (pw_or1 (pt_cmpR (op_eqD hr.units) (pv 2) (pe_lst pa_nil) (nomark _))))) (pss_one (ps_ret (pe_ix ix_list (pe_lst (pa_cons (pe_tup (pa_cons (pe_str) (pa_nil))) (pa_cons (pe_tup (pa_cons (pe_str) (pa_nil))) (pa_cons (pe_tup (pa_cons (pe_str) (pa_cons (cl Dd Gd hr (pa_cons (pv 0) (pa_cons (pv 1) (pa_cons (pe_int) (pa_nil))))) (pa_nil)))) (pa_cons (pe_tup (pa_cons (pe_str) (pa_cons (cl Dd Gd hr (pa_cons (pv 0) (pa_cons (pv 1) (pa_cons (pe_int) (pa_nil))))) (pa_nil)))) (pa_nil)))))) (pe_op op_mod (cl Dt Gt hr (pa_cons (pv 0) (pa_nil))) (pe_int)) (fun _ _ => rfl)))) pss_nil) (pss_one (ps_ret (pe_ix ix_list (pv 2) (pe_op op_mod (cl Dt Gt hr (pa_cons (pv 0) (pa_nil))) (pe_callB call_len_seq (by rfl) N.len PySem.boot_len (pa_cons (pv 2) (pa_nil)))) (fun _ _ => rfl))))), ?_⟩
  refine ⟨_, rfl, dd, rr, rfl, hd, fun x H1 hx s1 d1 => ⟨_, _, rfl, rfl, (by show (0 : Int) < 3; decide), ?_⟩⟩
  have c1 := hc.st hd s1
  have hbf1 := s1 _ _ hbf (hd.nl hbf)
  have hxs1 := TpAll.mono (hd.ts s1) _ _ hxs
  refine ⟨_, rfl, _, _, rfl, rfl, _, rfl, ite2 (fun c => ?_) (fun c => ?_)⟩
  · refine ⟨(by show 1 ≤ sizeLine; decide), fun p1 n1 => ⟨(by show 1 ≤ sizeLine; decide), fun p2 n2 => ?_⟩⟩
    have sa : Same H1 (upd (upd H1 p1 (.tup [.str "int"])) p2 (.tup [.str "bool"])) := (same_new n1 _).trans (same_new n2 _)
    have t1 : (upd (upd H1 p1 (.tup [.str "int"])) p2 (.tup [.str "bool"])) p1 = some (.tup [.str "int"]) := (same_new n2 _) _ _ upd_same
    have t2 : (upd (upd H1 p1 (.tup [.str "int"])) p2 (.tup [.str "bool"])) p2 = some (.tup [.str "bool"]) := upd_same
    have d2 := d1.same sa
    have s2 : St1 dd H (upd (upd H1 p1 (.tup [.str "int"])) p2 (.tup [.str "bool"])) := s1.trans (St1.of sa)
    have c2 := c1.same sa
    generalize upd (upd H1 p1 (.tup [.str "int"])) p2 (.tup [.str "bool"]) = H2 at *
    refine ⟨_, rfl, _, rfl, dd, rr, cc, 2, rfl, rfl, d2, c2, ha, hb, fun v3 k3 H3 s3 d3 w3 f3 wt3 dp3 => ⟨(by show 2 ≤ sizeLine; decide), fun p3 n3 => ?_⟩⟩
    have ts3 := d2.ts s3
    have sb : Same H3 (upd H3 p3 (.tup [.str "box", v3])) := same_new n3 _
    have t31 := sb _ _ (ts3 _ _ t1)
    have t32 := sb _ _ (ts3 _ _ t2)
    have t33 : Tp (upd H3 p3 (.tup [.str "box", v3])) (.ref p3) (kdD (.box k3)) := .tup upd_same (.cons (.str _) (.cons (Tp.mono (TSt.of sb) _ _ w3) .nil))
    have d4 := d3.same sb
    have s4 : St1 dd H (upd H3 p3 (.tup [.str "box", v3])) := (s2.trans s3).trans (St1.of sb)
    have c4 := (c2.st d2 s3).same sb
    generalize upd H3 p3 (.tup [.str "box", v3]) = H4 at *
    refine ⟨_, rfl, _, rfl, dd, rr, cc, 2, rfl, rfl, d4, c4, ha, hb, fun v5 k5 H5 s5 d5 w5 f5 wt5 dp5 => ⟨(by show 2 ≤ sizeLine; decide), fun p5 n5 => ⟨(by show 4 ≤ sizeLine; decide), fun l nl => ?_⟩⟩⟩
    have ts5 := d4.ts s5
    have sc : Same H5 (upd H5 p5 (.tup [.str "vec", v5])) := same_new n5 _
    have t55 : Tp (upd H5 p5 (.tup [.str "vec", v5])) (.ref p5) (kdD (.vec k5)) := .tup upd_same (.cons (.str _) (.cons (Tp.mono (TSt.of sc) _ _ w5) .nil))
    have sd : Same (upd H5 p5 (.tup [.str "vec", v5])) (upd (upd H5 p5 (.tup [.str "vec", v5])) l (.lst [.ref p1, .ref p2, .ref p3, .ref p5])) := same_new nl _
    have t6 : (upd (upd H5 p5 (.tup [.str "vec", v5])) l (.lst [.ref p1, .ref p2, .ref p3, .ref p5])) l = some (.lst [.ref p1, .ref p2, .ref p3, .ref p5]) := upd_same
    have t61 := (sc.trans sd) _ _ (ts5 _ _ t31)
    have t62 := (sc.trans sd) _ _ (ts5 _ _ t32)
    have t63 := Tp.mono (TSt.of (sc.trans sd)) _ _ (Tp.mono ts5 _ _ t33)
    have t65 := Tp.mono (TSt.of sd) _ _ t55
    have d6 := d5.same (sc.trans sd)
    have s6 : St1 dd H (upd (upd H5 p5 (.tup [.str "vec", v5])) l (.lst [.ref p1, .ref p2, .ref p3, .ref p5])) := (s4.trans s5).trans (St1.of (sc.trans sd))
    refine ⟨_, rfl, dd, rr, rfl, d6, fun x2 H7 hx2 s7 d7 => ⟨_, _, rfl, rfl, (by show (0 : Int) < 4; decide), ?_⟩⟩
    obtain ⟨v, hv1, hv2⟩ := pick (xs := [V.ref p1, V.ref p2, V.ref p3, V.ref p5]) (n := 4) x2 rfl (by decide)
    refine ⟨l, _, _, v, rfl, rfl, SqL.of (s7 l _ t6 (d6.nl t6)), hv2, ?_⟩
    have ts7 := d6.ts s7
    have st := s6.trans s7
    rcases List.mem_cons.mp hv1 with rfl | hv1
    · exact q (.ref p1) .int H7 st d7 (.tup (ts7 _ _ t61) (.cons (.str _) .nil)) ⟨trivial, Nat.zero_le _, by simp [Kd.dep], Nat.zero_le _⟩
    rcases List.mem_cons.mp hv1 with rfl | hv1
    · exact q (.ref p2) .bool H7 st d7 (.tup (ts7 _ _ t62) (.cons (.str _) .nil)) ⟨trivial, Nat.zero_le _, by simp [Kd.dep], Nat.zero_le _⟩
    rcases List.mem_cons.mp hv1 with rfl | hv1
    · exact q (.ref p3) (.box k3) H7 st d7 (Tp.mono ts7 _ _ t63) ⟨f3, by simp only [Kd.wt]; omega, by simp only [Kd.dep]; omega, Nat.zero_le _⟩
    · obtain rfl := List.mem_singleton.mp hv1
      exact q (.ref p5) (.vec k5) H7 st d7 (Tp.mono ts7 _ _ t65) ⟨f5, by simp only [Kd.wt]; omega, by simp only [Kd.dep]; omega, Nat.zero_le _⟩
  refine ⟨.ref bf, rfl, Nat.zero_le _, fun p np => ?_⟩
  have sp : Same H1 (upd H1 p (.lst [])) := same_new np _
  have e1 : (upd H1 p (.lst [])) p = some (.lst []) := upd_same
  replace s1 := s1.trans (St1.of sp)
  replace d1 := d1.same sp
  replace c1 := c1.same sp
  replace hbf1 := sp _ _ hbf1
  replace hxs1 := TpAll.mono (TSt.of sp) _ _ hxs1
  generalize upd H1 p (.lst []) = H1 at *
  refine ⟨.list (ks.map kdD), .list [], .lst (SqL.of hbf1) (TpAll.dp _ _ hxs1), .lst (SqL.of e1) .nil, shaped_kds fun z hz => (hks z hz).dep, shaped_nil, _, rfl, ?_⟩
  rw [eqv_nil]
  refine ite2 (fun c => ?_) (fun c => ?_)
  · refine ⟨(by show 1 ≤ sizeLine; decide), fun p1 n1 => ⟨(by show 1 ≤ sizeLine; decide), fun p2 n2 => ?_⟩⟩
    have sa : Same H1 (upd (upd H1 p1 (.tup [.str "int"])) p2 (.tup [.str "bool"])) := (same_new n1 _).trans (same_new n2 _)
    have t1 : (upd (upd H1 p1 (.tup [.str "int"])) p2 (.tup [.str "bool"])) p1 = some (.tup [.str "int"]) := (same_new n2 _) _ _ upd_same
    have t2 : (upd (upd H1 p1 (.tup [.str "int"])) p2 (.tup [.str "bool"])) p2 = some (.tup [.str "bool"]) := upd_same
    have d2 := d1.same sa
    have s2 : St1 dd H (upd (upd H1 p1 (.tup [.str "int"])) p2 (.tup [.str "bool"])) := s1.trans (St1.of sa)
    have c2 := c1.same sa
    generalize upd (upd H1 p1 (.tup [.str "int"])) p2 (.tup [.str "bool"]) = H2 at *
    refine ⟨_, rfl, _, rfl, dd, rr, cc, 2, rfl, rfl, d2, c2, ha, hb, fun v3 k3 H3 s3 d3 w3 f3 wt3 dp3 => ⟨(by show 2 ≤ sizeLine; decide), fun p3 n3 => ?_⟩⟩
    have ts3 := d2.ts s3
    have sb : Same H3 (upd H3 p3 (.tup [.str "box", v3])) := same_new n3 _
    have t31 := sb _ _ (ts3 _ _ t1)
    have t32 := sb _ _ (ts3 _ _ t2)
    have t33 : Tp (upd H3 p3 (.tup [.str "box", v3])) (.ref p3) (kdD (.box k3)) := .tup upd_same (.cons (.str _) (.cons (Tp.mono (TSt.of sb) _ _ w3) .nil))
    have d4 := d3.same sb
    have s4 : St1 dd H (upd H3 p3 (.tup [.str "box", v3])) := (s2.trans s3).trans (St1.of sb)
    have c4 := (c2.st d2 s3).same sb
    generalize upd H3 p3 (.tup [.str "box", v3]) = H4 at *
    refine ⟨_, rfl, _, rfl, dd, rr, cc, 2, rfl, rfl, d4, c4, ha, hb, fun v5 k5 H5 s5 d5 w5 f5 wt5 dp5 => ⟨(by show 2 ≤ sizeLine; decide), fun p5 n5 => ⟨(by show 4 ≤ sizeLine; decide), fun l nl => ?_⟩⟩⟩
    have ts5 := d4.ts s5
    have sc : Same H5 (upd H5 p5 (.tup [.str "vec", v5])) := same_new n5 _
    have t55 : Tp (upd H5 p5 (.tup [.str "vec", v5])) (.ref p5) (kdD (.vec k5)) := .tup upd_same (.cons (.str _) (.cons (Tp.mono (TSt.of sc) _ _ w5) .nil))
    have sd : Same (upd H5 p5 (.tup [.str "vec", v5])) (upd (upd H5 p5 (.tup [.str "vec", v5])) l (.lst [.ref p1, .ref p2, .ref p3, .ref p5])) := same_new nl _
    have t6 : (upd (upd H5 p5 (.tup [.str "vec", v5])) l (.lst [.ref p1, .ref p2, .ref p3, .ref p5])) l = some (.lst [.ref p1, .ref p2, .ref p3, .ref p5]) := upd_same
    have t61 := (sc.trans sd) _ _ (ts5 _ _ t31)
    have t62 := (sc.trans sd) _ _ (ts5 _ _ t32)
    have t63 := Tp.mono (TSt.of (sc.trans sd)) _ _ (Tp.mono ts5 _ _ t33)
    have t65 := Tp.mono (TSt.of sd) _ _ t55
    have d6 := d5.same (sc.trans sd)
    have s6 : St1 dd H (upd (upd H5 p5 (.tup [.str "vec", v5])) l (.lst [.ref p1, .ref p2, .ref p3, .ref p5])) := (s4.trans s5).trans (St1.of (sc.trans sd))
    refine ⟨_, rfl, dd, rr, rfl, d6, fun x2 H7 hx2 s7 d7 => ⟨_, _, rfl, rfl, (by show (0 : Int) < 4; decide), ?_⟩⟩
    obtain ⟨v, hv1, hv2⟩ := pick (xs := [V.ref p1, V.ref p2, V.ref p3, V.ref p5]) (n := 4) x2 rfl (by decide)
    refine ⟨l, _, _, v, rfl, rfl, SqL.of (s7 l _ t6 (d6.nl t6)), hv2, ?_⟩
    have ts7 := d6.ts s7
    have st := s6.trans s7
    rcases List.mem_cons.mp hv1 with rfl | hv1
    · exact q (.ref p1) .int H7 st d7 (.tup (ts7 _ _ t61) (.cons (.str _) .nil)) ⟨trivial, Nat.zero_le _, by simp [Kd.dep], Nat.zero_le _⟩
    rcases List.mem_cons.mp hv1 with rfl | hv1
    · exact q (.ref p2) .bool H7 st d7 (.tup (ts7 _ _ t62) (.cons (.str _) .nil)) ⟨trivial, Nat.zero_le _, by simp [Kd.dep], Nat.zero_le _⟩
    rcases List.mem_cons.mp hv1 with rfl | hv1
    · exact q (.ref p3) (.box k3) H7 st d7 (Tp.mono ts7 _ _ t63) ⟨f3, by simp only [Kd.wt]; omega, by simp only [Kd.dep]; omega, Nat.zero_le _⟩
    · obtain rfl := List.mem_singleton.mp hv1
      exact q (.ref p5) (.vec k5) H7 st d7 (Tp.mono ts7 _ _ t65) ⟨f5, by simp only [Kd.wt]; omega, by simp only [Kd.dep]; omega, Nat.zero_le _⟩
  have hne : 0 < xs.length := by
    rw [hxs.length]
    cases ks with
    | nil => exact absurd rfl c
    | cons _ _ => simp
  refine ⟨.ref bf, rfl, _, rfl, dd, rr, rfl, d1, fun x2 H5 hx2 s5 d5 => ?_⟩
  have hbf5 := s5 _ _ hbf1 (d1.nl hbf1)
  have hxs5 := TpAll.mono (d1.ts s5) _ _ hxs1
  obtain ⟨v, hv1, hv2⟩ := pick (xs := xs) (n := xs.length) x2 rfl hne
  refine ⟨.ref bf, rfl, bf, xs, rfl, .inl (SqL.of hbf5), _, _, rfl, rfl, (by show (0 : Int) < ((xs.length : Nat) : Int); omega), bf, xs, _, v, rfl, rfl, SqL.of hbf5, hv2, ?_⟩
  obtain ⟨i, hi⟩ := List.getElem?_of_mem hv1
  obtain ⟨d, hdi, tv⟩ := hxs5.at' hi
  obtain ⟨kf, hkf, rfl⟩ : ∃ kf, ks[i]? = some kf ∧ kdD kf = d := by
    rw [List.getElem?_map] at hdi
    exact Option.map_eq_some_iff.mp hdi
  exact q v kf H5 (s1.trans s5) d5 tv (hks kf (List.mem_of_getElem? hkf))
end
end My
set_option maxRecDepth 100000
set_option maxHeartbeats 4000000
namespace My
open PySem L2
theorem FnOk.any {P : Program} {w : World} {K : PySem.W.Frag} {mg : Str → Option Value} {base : Heap} {CX : CXT} {k : Nat} {f : Addr} {fd : FuncData} {ps : List Str} {ι : Type} {sp : ι → Sp}
    (h : ∀ i, FnOk P w K mg base CX k f fd ps (sp i)) : FnOk P w K mg base CX k f fd ps (fun vs H Q E => ∃ i, sp i vs H Q E) :=
  ⟨fun vs H Q E ⟨i, q⟩ => (h i).len vs H Q E q, fun A outer s H args us vs Q E hr he hb hv ⟨i, q⟩ => (h i).run A outer s H args us vs Q E hr he hb hv q⟩
theorem TSt.wr {H : Hp} {l : Addr} {xs : List V} {o : HO} (h : H l = some (.lst xs)) : TSt H (upd H l o) := fun b ys e => by rw [upd_ne (ne_of e h (by intro z; cases z))]; exact e
abbrev Ix3 : Type := Nat × Nat × Nat
abbrev spIn3 (i : Ix3) : Sp := spInside i.1 i.2.1 i.2.2
theorem lc_inside {a b r : Nat} {H0 : Hp} {dd rr cc bf : Addr} {xs : List V} {ks : List Kd} {σ : L2.St} {j n : Nat} {E : XK} {Qd : Addr → Hp → Prop} (hd : Dr H0 dd rr) (hc : Cn H0 cc a b) (ha : 1 ≤ a) (hb : 1 ≤ b) (hbf : H0 bf = some (.lst xs)) (hxs : TpAll H0 xs (ks.map kdD)) (hks : ∀ kd ∈ ks, Good a b r kd) (hn : n ≤ 1000)
    (s0 : ∀ x, ((wipe σ [j]).set j (some x))[0]? = some (some (.ref dd))) (s1 : ∀ x, ((wipe σ [j]).set j (some x))[1]? = some (some (.ref cc))) (s2 : ∀ x, ((wipe σ [j]).set j (some x))[2]? = some (some (.ref bf))) (sw : ∀ x, wipe ((wipe σ [j]).set j (some x)) [j] = wipe σ [j])
    (q : ∀ (D : Addr) (H' : Hp) (ys : List V) (fs : List Kd), H0 D = none → St1 dd H0 H' → Dr H' dd rr → H' D = some (.lst ys) → TpAll H' ys (fs.map kdD) → fs.length = n → (∀ kd ∈ fs, Good a b r kd) → Qd D H') :
    ∀ D, H0 D = none → ∃ W : Nat → Nat → Hp → Prop, (∃ m, W 0 m (upd H0 D (.lst []))) ∧ ∀ i m H, W i m H →
      ((Itr 0 n).stop i H ∧ Qd D H) ∨ ((Itr 0 n).go i H ∧ ∃ Nx : Hp → Prop, (∀ H', Nx H' → ∃ m', m' < m ∧ W (i + 1) m' H') ∧ ∀ x H', (Itr 0 n).yld i H x H' → gName j x (wipe σ [j]) H' fun σ2 H2 => wipe σ2 [j] = wipe σ [j] ∧ tYes σ2 H2 fun b H3 =>
        if b = true then tCall (fun vs H Q E => ∃ i : Ix3, spIn3 i vs H Q E) [] E (tCons (tVar 0) (tCons (tVar 1) (tCons (tVar 2) tNil))) σ2 H3 fun y H4 => ∃ acc, H4 D = some (.lst acc) ∧ acc.length < sizeLine ∧ Nx (upd H4 D (.lst (acc ++ [y]))) else Nx H3) := by
  intro Dl nD
  have nDd : Dl ≠ dd := hd.freene nD
  have nDr : Dl ≠ rr := hd.freene2 nD
  have nDb : Dl ≠ bf := (ne_of_none hbf nD).symm
  have nbd := hd.nl hbf
  refine lc_range0 (fun i H' => St1 dd H0 H' ∧ Dr H' dd rr ∧ ∃ ys fs, H' Dl = some (.lst ys) ∧ TpAll H' ys (fs.map kdD) ∧ fs.length = i ∧ ∀ kd ∈ fs, Good a b r kd) ⟨(St1.refl dd H0).new nD _, hd.same (same_new nD _), [], [], upd_same, .nil, rfl, by simp⟩ (fun i H' hi ⟨st, dr, ys, fs, hD, hys, hl, hg⟩ => ?_) (fun H' ⟨st, dr, ys, fs, hD, hys, hl, hg⟩ => q Dl H' ys fs nD st dr hD hys hl hg)
  refine ⟨sw _, _, s0 _, _, s1 _, _, s2 _, (a, b, r), dd, rr, cc, bf, xs, ks, rfl, dr, hc.st hd st, ha, hb, st _ _ hbf nbd, TpAll.mono (hd.ts st) _ _ hxs, hks, fun v kd H4 s4 d4 tv g4 => ?_⟩
  have hD4 := s4 _ _ hD nDd
  refine ⟨ys, hD4, ?_, (st.trans s4).writ nD _, d4.wr nDd nDr, ys ++ [v], fs ++ [kd], upd_same, ?_, ?_, ?_⟩
  · rw [hys.length, List.length_map]
    exact small1000 (by omega)
  · rw [List.map_append]
    exact TpAll.mono (TSt.wr hD4) _ _ ((TpAll.mono (dr.ts s4) _ _ hys).snoc tv)
  · rw [List.length_append, List.length_singleton, hl]
  · intro k hk
    rcases List.mem_append.mp hk with h | h
    · exact hg k h
    · rw [List.mem_singleton.mp h]
      exact g4
def RF (a b : Nat) (rs : List (List Kd)) : Prop := ∀ n fs, rs[n]? = some fs → fs.length ≤ 3 ∧ ∀ kd ∈ fs, Good a b (2 * n) kd
def VF (a b : Nat) (vs : List (List (List Kd))) : Prop := ∀ n ts, vs[n]? = some ts → 1 ≤ ts.length ∧ ts.length ≤ 3 ∧ ∀ ps ∈ ts, ps.length ≤ 2 ∧ ∀ kd ∈ ps, Good a b (2 * n + 1) kd
theorem snoc_at {α : Type} {l : List α} {x y : α} {n : Nat} (h : (l ++ [x])[n]? = some y) : l[n]? = some y ∨ (n = l.length ∧ y = x) := by
  by_cases hn : n < l.length
  · rw [List.getElem?_append_left hn] at h
    exact .inl h
  · rw [List.getElem?_append_right (by omega)] at h
    obtain ⟨m, hm⟩ : ∃ m, n - l.length = m := ⟨_, rfl⟩
    rw [hm] at h
    match m, hm, h with
    | 0, hm, h => exact .inr ⟨by omega, (Option.some.inj h).symm⟩
    | m + 1, _, h => simp at h
theorem RF.snoc {a b k : Nat} {rs : List (List Kd)} {fs : List Kd} (h : RF a b rs) (hk : rs.length = k) (h3 : fs.length ≤ 3) (hg : ∀ kd ∈ fs, Good a b (2 * k) kd) : RF a b (rs ++ [fs]) := fun n gs e => by
  rcases snoc_at e with e | ⟨rfl, rfl⟩
  · exact h n gs e
  · rw [hk]
    exact ⟨h3, hg⟩
theorem VF.snoc {a b k : Nat} {vs : List (List (List Kd))} {ts : List (List Kd)} (h : VF a b vs) (hk : vs.length = k) (h1 : 1 ≤ ts.length) (h3 : ts.length ≤ 3) (hg : ∀ ps ∈ ts, ps.length ≤ 2 ∧ ∀ kd ∈ ps, Good a b (2 * k + 1) kd) : VF a b (vs ++ [ts]) := fun n gs e => by
  rcases snoc_at e with e | ⟨rfl, rfl⟩
  · exact h n gs e
  · rw [hk]
    exact ⟨h1, h3, hg⟩
/-- what stands while the book is made -/
structure BI (a b : Nat) (H : Hp) (dd rr cc bf bh l0 l1 : Addr) (r nr nv : Nat) (H' : Hp) (xs : List V) (ks : List Kd) (ys : List V) (rs : List (List Kd)) (zs : List V) (vs : List (List (List Kd))) : Prop where
  st : St1 dd H H'
  dr : Dr H' dd rr
  cn : Cn H' cc a b
  bh : H' bh = some (.tup [.ref l0, .ref l1])
  bf : H' bf = some (.lst xs)
  tx : TpAll H' xs (ks.map kdD)
  gx : ∀ kd ∈ ks, Good a b r kd
  lx : ks.length ≤ 2 * nr + 2 * nv
  l0 : H' l0 = some (.lst ys)
  ty : TpAll H' ys (rs.map ksD)
  ly : rs.length = nr
  rf : RF a b rs
  l1 : H' l1 = some (.lst zs)
  tz : TpAll H' zs (vs.map tsD)
  lz : vs.length = nv
  vf : VF a b vs
/-- the addresses of what the book is made of -/
structure Ad (H : Hp) (dd rr bf l0 l1 : Addr) : Prop where
  fb : H bf = none
  f0 : H l0 = none
  f1 : H l1 = none
  b0 : bf ≠ l0
  b1 : bf ≠ l1
  c01 : l0 ≠ l1
  br : bf ≠ rr
  r0 : l0 ≠ rr
  r1 : l1 ≠ rr
section
variable {a b : Nat} {H H' H3 : Hp} {dd rr cc bf bh l0 l1 : Addr} {r nr nv : Nat} {xs ys zs : List V} {ks : List Kd} {rs : List (List Kd)} {vs : List (List (List Kd))}
theorem BI.step (B : BI a b H dd rr cc bf bh l0 l1 r nr nv H' xs ks ys rs zs vs) (s : St1 dd H' H3) (d : Dr H3 dd rr) : BI a b H dd rr cc bf bh l0 l1 r nr nv H3 xs ks ys rs zs vs := by
  have t := B.dr.ts s
  obtain ⟨o, e, no⟩ := B.dr.no
  exact { B with st := B.st.trans s, dr := d, cn := B.cn.st B.dr s, bh := t _ _ B.bh, bf := s _ _ B.bf (B.dr.nl B.bf), tx := TpAll.mono t _ _ B.tx, l0 := s _ _ B.l0 (B.dr.nl B.l0), ty := TpAll.mono t _ _ B.ty, l1 := s _ _ B.l1 (B.dr.nl B.l1), tz := TpAll.mono t _ _ B.tz }
theorem BI.new {p : Addr} (B : BI a b H dd rr cc bf bh l0 l1 r nr nv H' xs ks ys rs zs vs) (n : H' p = none) (o : HO) : BI a b H dd rr cc bf bh l0 l1 r nr nv (upd H' p o) xs ks ys rs zs vs :=
  B.step (St1.of (same_new n o)) (B.dr.same (same_new n o))
theorem BI.mono {r' : Nat} (B : BI a b H dd rr cc bf bh l0 l1 r nr nv H' xs ks ys rs zs vs) (h : r ≤ r') : BI a b H dd rr cc bf bh l0 l1 r' nr nv H' xs ks ys rs zs vs :=
  { B with gx := fun kd hk => (B.gx kd hk).mono h }
theorem BI.cast {nr' nv' : Nat} (B : BI a b H dd rr cc bf bh l0 l1 r nr nv H' xs ks ys rs zs vs) (h : nr = nr') (h2 : nv = nv') : BI a b H dd rr cc bf bh l0 l1 r nr' nv' H' xs ks ys rs zs vs := by
  subst h h2
  exact B
theorem BI.wl0 {v : V} {fs : List Kd} (B : BI a b H dd rr cc bf bh l0 l1 r nr nv H' xs ks ys rs zs vs) (A : Ad H dd rr bf l0 l1) (tv : Tp H' v (ksD fs)) (h3 : fs.length ≤ 3) (hg : ∀ kd ∈ fs, Good a b (2 * nr) kd) :
    BI a b H dd rr cc bf bh l0 l1 r (nr + 1) nv (upd H' l0 (.lst (ys ++ [v]))) xs ks (ys ++ [v]) (rs ++ [fs]) zs vs := by
  have t : TSt H' (upd H' l0 (.lst (ys ++ [v]))) := TSt.wr B.l0
  exact { B with
    st := B.st.writ A.f0 _
    dr := B.dr.wr (B.dr.nl B.l0) A.r0
    cn := by
      have n : cc ≠ l0 := ne_of B.cn B.l0 (by intro z; cases z)
      show (upd H' l0 _) cc = _
      rw [upd_ne n]; exact B.cn
    bh := t _ _ B.bh
    bf := by rw [upd_ne A.b0]; exact B.bf
    tx := TpAll.mono t _ _ B.tx
    lx := by have := B.lx; omega
    l0 := upd_same
    ty := by rw [List.map_append]; exact (TpAll.mono t _ _ B.ty).snoc (Tp.mono t _ _ tv)
    ly := by rw [List.length_append, List.length_singleton, B.ly]
    rf := B.rf.snoc B.ly h3 hg
    l1 := by rw [upd_ne A.c01.symm]; exact B.l1
    tz := TpAll.mono t _ _ B.tz }
theorem BI.wl1 {v : V} {ts : List (List Kd)} (B : BI a b H dd rr cc bf bh l0 l1 r nr nv H' xs ks ys rs zs vs) (A : Ad H dd rr bf l0 l1) (tv : Tp H' v (tsD ts)) (h1 : 1 ≤ ts.length) (h3 : ts.length ≤ 3) (hg : ∀ ps ∈ ts, ps.length ≤ 2 ∧ ∀ kd ∈ ps, Good a b (2 * nv + 1) kd) :
    BI a b H dd rr cc bf bh l0 l1 r nr (nv + 1) (upd H' l1 (.lst (zs ++ [v]))) xs ks ys rs (zs ++ [v]) (vs ++ [ts]) := by
  have t : TSt H' (upd H' l1 (.lst (zs ++ [v]))) := TSt.wr B.l1
  exact { B with
    st := B.st.writ A.f1 _
    dr := B.dr.wr (B.dr.nl B.l1) A.r1
    cn := by
      have n : cc ≠ l1 := ne_of B.cn B.l1 (by intro z; cases z)
      show (upd H' l1 _) cc = _
      rw [upd_ne n]; exact B.cn
    bh := t _ _ B.bh
    bf := by rw [upd_ne A.b1]; exact B.bf
    tx := TpAll.mono t _ _ B.tx
    lx := by have := B.lx; omega
    l0 := by rw [upd_ne A.c01]; exact B.l0
    ty := TpAll.mono t _ _ B.ty
    l1 := upd_same
    tz := by rw [List.map_append]; exact (TpAll.mono t _ _ B.tz).snoc (Tp.mono t _ _ tv)
    lz := by rw [List.length_append, List.length_singleton, B.lz]
    vf := B.vf.snoc B.lz h1 h3 hg }
theorem BI.wbf {v : V} {kd : Kd} {r' : Nat} (B : BI a b H dd rr cc bf bh l0 l1 r nr nv H' xs ks ys rs zs vs) (A : Ad H dd rr bf l0 l1) (tv : Tp H' v (kdD kd)) (hg : Good a b r' kd) (hr : r ≤ r') (hl : ks.length + 1 ≤ 2 * nr + 2 * nv) :
    BI a b H dd rr cc bf bh l0 l1 r' nr nv (upd H' bf (.lst (xs ++ [v]))) (xs ++ [v]) (ks ++ [kd]) ys rs zs vs := by
  have t : TSt H' (upd H' bf (.lst (xs ++ [v]))) := TSt.wr B.bf
  exact { B with
    st := B.st.writ A.fb _
    dr := B.dr.wr (B.dr.nl B.bf) A.br
    cn := by
      have n : cc ≠ bf := ne_of B.cn B.bf (by intro z; cases z)
      show (upd H' bf _) cc = _
      rw [upd_ne n]; exact B.cn
    bh := t _ _ B.bh
    bf := upd_same
    tx := by rw [List.map_append]; exact (TpAll.mono t _ _ B.tx).snoc (Tp.mono t _ _ tv)
    gx := fun k hk => by
      rcases List.mem_append.mp hk with h | h
      · exact (B.gx k h).mono hr
      · rw [List.mem_singleton.mp h]; exact hg
    lx := by rw [List.length_append, List.length_singleton]; exact hl
    l0 := by rw [upd_ne A.b0.symm]; exact B.l0
    ty := TpAll.mono t _ _ B.ty
    l1 := by rw [upd_ne A.b1.symm]; exact B.l1
    tz := TpAll.mono t _ _ B.tz }
/-- a list beside -/
structure Tg (H : Hp) (dd rr bf l0 l1 tg : Addr) : Prop where
  f : H tg = none
  d : tg ≠ dd
  r : tg ≠ rr
  b : tg ≠ bf
  l0 : tg ≠ l0
  l1 : tg ≠ l1
theorem BI.wtg {tg : Addr} {ws : List V} {o : HO} (B : BI a b H dd rr cc bf bh l0 l1 r nr nv H' xs ks ys rs zs vs) (T : Tg H dd rr bf l0 l1 tg) (ht : H' tg = some (.lst ws)) : BI a b H dd rr cc bf bh l0 l1 r nr nv (upd H' tg o) xs ks ys rs zs vs := by
  have t : TSt H' (upd H' tg o) := TSt.wr ht
  exact { B with
    st := B.st.writ T.f _
    dr := B.dr.wr T.d T.r
    cn := by
      have n : cc ≠ tg := ne_of B.cn ht (by intro z; cases z)
      show (upd H' tg _) cc = _
      rw [upd_ne n]; exact B.cn
    bh := t _ _ B.bh
    bf := by rw [upd_ne T.b.symm]; exact B.bf
    tx := TpAll.mono t _ _ B.tx
    l0 := by rw [upd_ne T.l0.symm]; exact B.l0
    ty := TpAll.mono t _ _ B.ty
    l1 := by rw [upd_ne T.l1.symm]; exact B.l1
    tz := TpAll.mono t _ _ B.tz }
end
theorem mod_nat (x : Int) (n : Nat) (hn : 0 < n) : ∃ m : Nat, x % ((n : Nat) : Int) = (m : Int) ∧ m < n := by
  have h1 := Int.emod_nonneg x (show ((n : Nat) : Int) ≠ 0 by omega)
  have h2 := Int.emod_lt_of_pos x (show (0 : Int) < ((n : Nat) : Int) by omega)
  exact ⟨(x % ((n : Nat) : Int)).toNat, by omega, by omega⟩
section
variable {P : Program} {w : World} {K : PySem.W.Frag} {mg : Str → Option Value} {base : Heap}
abbrev nBook : List Str := ["_law_d", "_law_counts", "_law_before", "_law_book_here", "_law_k", "_law_tags", "_law_turn", "_law_part"]
theorem scBook : FnScope nBook ["_law_d"] (defScope sBook) := ⟨rfl, rfl, rfl, by decide +kernel, rfl, by decide +kernel, by decide +kernel⟩
def spBook : Sp := fun vs H Q _ => ∃ dd rr, vs = [.ref dd] ∧ Dr H dd rr ∧ ∀ v (B : Bk) H', St1 dd H H' → Dr H' dd rr → B.Ok → Tp H' v (bkD B) → Q v H'
theorem ok_book {k : Nat} (hk1 : 1 ≤ k) {f f1 f2 : Addr} {fd d1 d2 : FuncData} (D : Df K mg "_law_book" sBook ["_law_d"] f fd) (N : Nm K w mg) (Dt : Df K mg "_law_take" sTake ["_law_d"] f1 d1) (Di : Df K mg "_law_inside" sInside pInside f2 d2)
    (Gi : FnOk P w K mg base CX0 k f2 d2 pInside (fun vs H Q E => ∃ i : Ix3, spIn3 i vs H Q E)) : FnOk P w K mg base CX0 (k + 1) f fd ["_law_d"] spBook := by
  have Gt := (ok_take (P := P) (base := base) Dt N).mono hk1
  refine D.F.ok scBook (fun vs H Q E h => ?_) (fun cdv A outer s H vs Q E hr h => ?_)
  · obtain ⟨dd, rr, rfl, _⟩ := h
    rfl
  obtain ⟨dd, rr, rfl, hd, q⟩ := h
  have hu := hu_of hr
  refine ⟨_, pss_cons (ps_set (i := 1) scBook.nd rfl (Or.inr rfl) (pe_disp (pps_cons (pe_str) (pe_op op_add (pe_int) (pe_op op_mod (cl Dt Gt hr (pa_cons (pv 0) (pa_nil))) (pe_int))) (pps_cons (pe_str) (pe_op op_add (pe_int) (pe_op op_mod (cl Dt Gt hr (pa_cons (pv 0) (pa_nil))) (pe_int))) (pps_nil))) (by rfl) (by rfl) (fun z => by cases z) (by decide))) (pss_cons (ps_set (i := 2) scBook.nd rfl (Or.inr rfl) (pe_lst (pa_nil))) (pss_cons (ps_set (i := 3) scBook.nd rfl (Or.inl rfl) (pe_tup (pa_cons (pe_lst (pa_nil)) (pa_cons (pe_lst (pa_nil)) (pa_nil))))) (pss_cons (ps_for PassesOwn.never rfl (pi_range1 rfl N.range (pa_cons (pe_int) (pa_nil))) (pg_name (i := 4) scBook.nd rfl (Or.inl rfl)) (pss_cons (ps_if (pt_cmpR op_lt (pv 4) (pe_dget hu (pv 1) (pe_str) (fun _ _ => rfl)) (nomark _)) (pss_cons (ps_expr (pe_bm PySem.F.plainAttrs_list PySem.F.slot_list_append PySem.F.type_list_append mt_append (pe_ix ix_tup (pv 3) (pe_int) (fun _ _ => rfl)) (pa_cons (pe_callTy call_tuple_of (by rfl) N.tup PyProof.Rows.boot_tuple (pa_cons (pe_lc (own := [("_law_turn", 6)]) (g := gName 6) (tt := tYes) rfl scBook.nd (pi_range1 rfl N.range (pa_cons (pe_op op_mod (cl Dt Gt hr (pa_cons (pv 0) (pa_nil))) (pe_int)) (pa_nil))) (blkOk_by (own := [("_law_turn", 6)]) (N := nBook) (sc := defScope sBook) (by decide +kernel)) (fun _ _ _ _ _ => pg_name (i := 6) scBook.nd rfl (Or.inl rfl)) (fun _ _ _ _ _ => pts_nil) (fun _ _ _ _ _ => cl Di Gi hr (pa_cons (pv 0) (pa_cons (pv 1) (pa_cons (pv 2) (pa_nil)))))) (pa_nil))) (pa_nil)))) (pss_one (ps_expr (pe_bm PySem.F.plainAttrs_list PySem.F.slot_list_append PySem.F.type_list_append mt_append (pv 2) (pa_cons (pe_tup (pa_cons (pe_str) (pa_cons (pv 4) (pa_nil)))) (pa_nil)))))) pss_nil) (pss_one (ps_if (pt_cmpR op_lt (pv 4) (pe_dget hu (pv 1) (pe_str) (fun _ _ => rfl)) (nomark _)) (pss_cons (ps_set (i := 5) scBook.nd rfl (Or.inl rfl) (pe_lst (pa_nil))) (pss_cons (ps_for PassesOwn.never rfl (pi_range1 rfl N.range (pa_cons (pe_op op_add (pe_int) (pe_op op_mod (cl Dt Gt hr (pa_cons (pv 0) (pa_nil))) (pe_int))) (pa_nil))) (pg_name (i := 6) scBook.nd rfl (Or.inl rfl)) (pss_one (ps_expr (pe_bm PySem.F.plainAttrs_list PySem.F.slot_list_append PySem.F.type_list_append mt_append (pv 5) (pa_cons (pe_callTy call_tuple_of (by rfl) N.tup PyProof.Rows.boot_tuple (pa_cons (pe_lc (own := [("_law_part", 7)]) (g := gName 7) (tt := tYes) rfl scBook.nd (pi_range1 rfl N.range (pa_cons (pe_op op_mod (cl Dt Gt hr (pa_cons (pv 0) (pa_nil))) (pe_int)) (pa_nil))) (blkOk_by (own := [("_law_part", 7)]) (N := nBook) (sc := defScope sBook) (by decide +kernel)) (fun _ _ _ _ _ => pg_name (i := 7) scBook.nd rfl (Or.inl rfl)) (fun _ _ _ _ _ => pts_nil) (fun _ _ _ _ _ => cl Di Gi hr (pa_cons (pv 0) (pa_cons (pv 1) (pa_cons (pv 2) (pa_nil)))))) (pa_nil))) (pa_nil)))))) (pss_cons (ps_expr (pe_bm PySem.F.plainAttrs_list PySem.F.slot_list_append PySem.F.type_list_append mt_append (pe_ix ix_tup (pv 3) (pe_int) (fun _ _ => rfl)) (pa_cons (pe_callTy call_tuple_of (by rfl) N.tup PyProof.Rows.boot_tuple (pa_cons (pv 5) (pa_nil))) (pa_nil)))) (pss_one (ps_expr (pe_bm PySem.F.plainAttrs_list PySem.F.slot_list_append PySem.F.type_list_append mt_append (pv 2) (pa_cons (pe_tup (pa_cons (pe_str) (pa_cons (pv 4) (pa_nil)))) (pa_nil)))))))) pss_nil)))) (pss_one (ps_ret (pe_tup (pa_cons (pe_callTy call_tuple_of (by rfl) N.tup PyProof.Rows.boot_tuple (pa_cons (pe_ix ix_tup (pv 3) (pe_int) (fun _ _ => rfl)) (pa_nil))) (pa_cons (pe_callTy call_tuple_of (by rfl) N.tup PyProof.Rows.boot_tuple (pa_cons (pe_ix ix_tup (pv 3) (pe_int) (fun _ _ => rfl)) (pa_nil))) (pa_nil))))))))), ?_⟩
  intro cc ncc
  have scc : Same H (upd H cc (.dK [])) := same_new ncc _
  have dcc := hd.same scc
  have ecc : (upd H cc (.dK [])) cc = some (.dK []) := upd_same
  refine ⟨_, rfl, dd, rr, rfl, dcc, fun x1 H1 hx1 s1 d1 => ⟨_, _, rfl, rfl, (by show (0 : Int) < 3; decide), _, _, rfl, rfl, _, rfl, dd, rr, rfl, d1, fun x2 H2 hx2 s2 d2 => ⟨_, _, rfl, rfl, (by show (0 : Int) < 3; decide), _, _, rfl, rfl, ?_⟩⟩⟩
  have ncd : cc ≠ dd := hd.freene ncc
  have ncr : cc ≠ rr := hd.freene2 ncc
  have e2 : H2 cc = some (.dK []) := s2 _ _ (s1 _ _ ecc ncd) ncd
  refine ⟨e2, [(.inr "record", .int (1 + x1 % 3)), (.inr "variant", .int (1 + x2 % 3))], rfl, (by show 2 ≤ 15; decide), ?_⟩
  rw [merge_rv]
  obtain ⟨a0, ha0, ha3⟩ := mod_nat x1 3 (by decide)
  obtain ⟨b0, hb0, hb3⟩ := mod_nat x2 3 (by decide)
  have ha0' : x1 % 3 = (a0 : Int) := ha0
  have hb0' : x2 % 3 = (b0 : Int) := hb0
  obtain ⟨a, ea⟩ : ∃ a : Nat, a = a0 + 1 := ⟨_, rfl⟩
  obtain ⟨b, eb⟩ : ∃ b : Nat, b = b0 + 1 := ⟨_, rfl⟩
  have ha1 : 1 ≤ a := by omega
  have hb1 : 1 ≤ b := by omega
  have ha4 : a ≤ 3 := by omega
  have hb4 : b ≤ 3 := by omega
  have cn3 : Cn (upd H2 cc (.dK [(.inr "record", .int (1 + x1 % 3)), (.inr "variant", .int (1 + x2 % 3))])) cc a b := by
    show (upd H2 cc _) cc = _
    rw [upd_same, show (1 : Int) + x1 % 3 = ((a : Nat) : Int) by omega, show (1 : Int) + x2 % 3 = ((b : Nat) : Int) by omega]
  have st3 : St1 dd H (upd H2 cc (.dK [(.inr "record", .int (1 + x1 % 3)), (.inr "variant", .int (1 + x2 % 3))])) := (((St1.of scc).trans s1).trans s2).writ ncc _
  have dr3 : Dr (upd H2 cc (.dK [(.inr "record", .int (1 + x1 % 3)), (.inr "variant", .int (1 + x2 % 3))])) dd rr := d2.wr ncd ncr
  refine ⟨Nat.zero_le _, fun bf nbf => ⟨Nat.zero_le _, fun l0 n0 => ⟨Nat.zero_le _, fun l1 n1 => ⟨(by show 2 ≤ sizeLine; decide), fun bh nbh => ?_⟩⟩⟩⟩
  generalize upd H2 cc (.dK [(.inr "record", .int (1 + x1 % 3)), (.inr "variant", .int (1 + x2 % 3))]) = H3 at *
  have up : ∀ {p : Addr}, H3 p = none → H p = none := fun {p} n => by
    cases e : H p with
    | none => rfl
    | some o => exact absurd (st3 _ _ e (dr3.freene n)) (by rw [n]; intro z; cases z)
  have sb : Same H3 (upd H3 bf (.lst [])) := same_new nbf _
  have s0 : Same (upd H3 bf (.lst [])) (upd (upd H3 bf (.lst [])) l0 (.lst [])) := same_new n0 _
  have s1' : Same (upd (upd H3 bf (.lst [])) l0 (.lst [])) (upd (upd (upd H3 bf (.lst [])) l0 (.lst [])) l1 (.lst [])) := same_new n1 _
  have sh : Same (upd (upd (upd H3 bf (.lst [])) l0 (.lst [])) l1 (.lst [])) (upd (upd (upd (upd H3 bf (.lst [])) l0 (.lst [])) l1 (.lst [])) bh (.tup [.ref l0, .ref l1])) := same_new nbh _
  have n0' := sb.free n0
  have n1' := (sb.trans s0).free n1
  have A : Ad H dd rr bf l0 l1 := ⟨up nbf, up n0', up n1', ne_of_none (H := upd H3 bf (.lst [])) (o := .lst []) upd_same n0, ne_of_none (s0 _ _ upd_same) n1, ne_of_none (H := upd (upd H3 bf (.lst [])) l0 (.lst [])) (o := .lst []) upd_same n1, dr3.freene2 nbf, dr3.freene2 n0', dr3.freene2 n1'⟩
  have all := ((sb.trans s0).trans s1').trans sh
  have B0 : BI a b H dd rr cc bf bh l0 l1 (2 * 0) 0 0 (upd (upd (upd (upd H3 bf (.lst [])) l0 (.lst [])) l1 (.lst [])) bh (.tup [.ref l0, .ref l1])) [] [] [] [] [] [] :=
    { st := st3.trans (St1.of all), dr := dr3.same all, cn := cn3.same all, bh := upd_same, bf := ((s0.trans s1').trans sh) _ _ upd_same, tx := .nil, gx := by simp, lx := Nat.zero_le _, l0 := (s1'.trans sh) _ _ upd_same, ty := .nil, ly := rfl, rf := fun n fs e => by simp at e,
      l1 := sh _ _ upd_same, tz := .nil, lz := rfl, vf := fun n fs e => by simp at e }
  refine ⟨_, rfl, by decide, by decide, for_range0 (fun k σ H' => ∃ x4 x5 x6 x7, σ = [some (.ref dd), some (.ref cc), some (.ref bf), some (.ref bh), x4, x5, x6, x7] ∧ ∃ xs ks ys rs zs vs, BI a b H dd rr cc bf bh l0 l1 (2 * k) (min k a) (min k b) H' xs ks ys rs zs vs)
    ⟨_, _, _, _, rfl, _, _, _, _, _, _, B0.cast (by omega) (by omega)⟩ (fun k σ H1 hk ⟨x4, x5, x6, x7, e, xs, ks, ys, rs, zs, vs, B⟩ => ?_) (fun σ H1 ⟨x4, x5, x6, x7, e, xs, ks, ys, rs, zs, vs, B⟩ => ?_)⟩
  · subst e
    have hk3 : k < 3 := hk
    have gR := DGet.k (k := Sum.inr ("record" : Str)) B.cn
    rw [val_rec] at gR
    refine ⟨_, rfl, .ref cc, rfl, cc, _, rfl, gR, _, _, rfl, rfl, _, rfl, ite2 (fun c => ?_) (fun c => ?_)⟩
    · have hka : k < a := by
        have c' : ((k : Nat) : Int) < ((a : Nat) : Int) := of_decide_eq_true c
        omega
      refine ⟨.ref bh, rfl, bh, _, _, .ref l0, rfl, rfl, SqT.of B.bh, atI_nat (j := 0) rfl, .inl ⟨rfl, _, SqL.of B.l0⟩, _, rfl, dd, rr, rfl, B.dr, fun x H2 hx s2 d2 => ⟨_, _, rfl, rfl, (by show (0 : Int) < 4; decide), _, rfl, ?_⟩⟩
      obtain ⟨m, hm, hm4⟩ := mod_nat x 4 (by decide)
      have hm' : x % 4 = (m : Int) := hm
      refine ⟨by omega, by omega, ?_⟩
      have B2 := B.step s2 d2
      refine lc_inside (n := (x % 4).toNat) (a := a) (b := b) (r := 2 * k) (j := 6) (σ := [some (.ref dd), some (.ref cc), some (.ref bf), some (.ref bh), some (.int ((k : Nat) : Int)), x5, x6, x7]) B2.dr B2.cn ha1 hb1 B2.bf B2.tx B2.gx (by omega) (by exact fun _ => rfl) (by exact fun _ => rfl) (by exact fun _ => rfl) (by exact fun _ => rfl) (fun Dl H3' ys' fs nD s3 d3 hD tD lf gf => ?_)
      have B3 := B2.step s3 d3
      refine ⟨Dl, ys', rfl, .inl ⟨SqL.of hD, fun pA npA => ?_⟩⟩
      have sp : Same H3' (upd H3' pA (.tup ys')) := same_new npA _
      have B4 := B3.new npA (.tup ys')
      have B5 := (B4.cast (show min k a = k by omega) rfl).wl0 A (v := .ref pA) (fs := fs) (.tup upd_same (TpAll.mono (TSt.of sp) _ _ tD)) (by omega) gf
      refine ⟨l0, ys, .ref pA, rfl, rfl, B4.l0, by rw [B4.ty.length, List.length_map]; exact small1000 (by have := B4.ly; omega), .ref bf, rfl, .inl ⟨rfl, _, SqL.of B5.bf⟩, _, rfl, (by show 2 ≤ sizeLine; decide), fun pB npB => ?_⟩
      have B6 := B5.new npB (.tup [.str "record", .int ((k : Nat) : Int)])
      have B7 := B6.wbf (r' := 2 * k + 1) A (v := .ref pB) (kd := .rcd k) (.tup upd_same (.cons (.str _) (.cons (.int _) .nil))) ⟨hka, by simp [Kd.wt], by simp [Kd.dep], by simp only [Kd.rk]; omega⟩ (by omega) (by have := B.lx; omega)
      refine ⟨bf, xs, .ref pB, rfl, rfl, B6.bf, by rw [B6.tx.length, List.length_map]; exact small1000 (by have := B.lx; omega), ?_⟩
      have B1 := B7.cast (show k + 1 = min (k + 1) a by omega) rfl
      have gV := DGet.k (k := Sum.inr ("variant" : Str)) B1.cn
      rw [val_var] at gV
      refine ⟨_, rfl, .ref cc, rfl, cc, _, rfl, gV, _, _, rfl, rfl, _, rfl, ite2 (fun c => ?_) (fun c => ?_)⟩
      · have hkb : k < b := by
          have c' : ((k : Nat) : Int) < ((b : Nat) : Int) := of_decide_eq_true c
          omega
        refine ⟨Nat.zero_le _, fun tg ntg => ?_⟩
        have T : Tg H dd rr bf l0 l1 tg := ⟨by
            cases e : H tg with
            | none => rfl
            | some o => exact absurd (B1.st _ _ e (B1.dr.freene ntg)) (by rw [ntg]; intro z; cases z), B1.dr.freene ntg, B1.dr.freene2 ntg, (ne_of_none B1.bf ntg).symm, (ne_of_none B1.l0 ntg).symm, (ne_of_none B1.l1 ntg).symm⟩
        have B2 := B1.new ntg (.lst [])
        have htg : (upd (upd (upd (upd (upd H3' pA (.tup ys')) l0 (.lst (ys ++ [.ref pA]))) pB (.tup [.str "record", .int ((k : Nat) : Int)])) bf (.lst (xs ++ [.ref pB]))) tg (.lst [])) tg = some (.lst []) := upd_same
        refine ⟨_, rfl, dd, rr, rfl, B2.dr, fun x H3 hx s3 d3 => ⟨_, _, rfl, rfl, (by show (0 : Int) < 3; decide), _, _, rfl, rfl, _, rfl, ?_⟩⟩
        obtain ⟨m, hm, hm3⟩ := mod_nat x 3 (by decide)
        have em : ((1 : Int) + x % 3).toNat = m + 1 := by
          have hm' : x % 3 = (m : Int) := hm
          omega
        have lo : -(2 ^ 62) ≤ (1 : Int) + x % 3 := by
          have hm' : x % 3 = (m : Int) := hm
          omega
        have hi : (1 : Int) + x % 3 < 2 ^ 62 := by
          have hm' : x % 3 = (m : Int) := hm
          omega
        refine ⟨lo, hi, ?_⟩
        refine for_range0 (n := ((1 : Int) + x % 3).toNat) (fun i σ H' => ∃ x6 x7, σ = [some (.ref dd), some (.ref cc), some (.ref bf), some (.ref bh), some (.int ((k : Nat) : Int)), some (.ref tg), x6, x7] ∧ BI a b H dd rr cc bf bh l0 l1 (2 * k + 1) (min (k + 1) a) (min k b) H' (xs ++ [V.ref pB]) (ks ++ [Kd.rcd k]) (ys ++ [V.ref pA]) (rs ++ [fs]) zs vs ∧ ∃ ws ts, H' tg = some (.lst ws) ∧ TpAll H' ws (ts.map ksD) ∧ ts.length = i ∧ ∀ ps ∈ ts, ps.length ≤ 2 ∧ ∀ kd ∈ ps, Good a b (2 * k + 1) kd)
          ⟨_, _, rfl, B2.step s3 d3, [], [], s3 _ _ htg T.d, .nil, rfl, by simp⟩ (fun i σ H4 hi ⟨x6, x7, e, B4, ws, ts, hw, tw, lw, gw⟩ => ?_) (fun σ H4 ⟨x6, x7, e, B4, ws, ts, hw, tw, lw, gw⟩ => ?_)
        · subst e
          have hi3 : i < 3 := by omega
          refine ⟨.ref tg, rfl, .inl ⟨rfl, _, SqL.of hw⟩, _, rfl, dd, rr, rfl, B4.dr, fun x2 H5 hx2 s5 d5 => ⟨_, _, rfl, rfl, (by show (0 : Int) < 3; decide), _, rfl, ?_⟩⟩
          obtain ⟨m2, hm2, hm23⟩ := mod_nat x2 3 (by decide)
          have hm2' : x2 % 3 = (m2 : Int) := hm2
          refine ⟨by omega, by omega, ?_⟩
          have B5 := B4.step s5 d5
          refine lc_inside (n := (x2 % 3).toNat) (a := a) (b := b) (r := 2 * k + 1) (j := 7) (σ := [some (.ref dd), some (.ref cc), some (.ref bf), some (.ref bh), some (.int ((k : Nat) : Int)), some (.ref tg), some (.int ((i : Nat) : Int)), x7]) B5.dr B5.cn ha1 hb1 B5.bf B5.tx B5.gx (by omega) (by exact fun _ => rfl) (by exact fun _ => rfl) (by exact fun _ => rfl) (by exact fun _ => rfl) (fun Dl H6 ys' fs nD s6 d6 hD tD lf gf => ?_)
          have B6 := B5.step s6 d6
          have hw5 := s5 _ _ hw T.d
          have hw6 := s6 _ _ hw5 T.d
          have tw6 := TpAll.mono (B5.dr.ts s6) _ _ (TpAll.mono (B4.dr.ts s5) _ _ tw)
          refine ⟨Dl, ys', rfl, .inl ⟨SqL.of hD, fun p np => ?_⟩⟩
          have sp : Same H6 (upd H6 p (.tup ys')) := same_new np _
          have hw7 := sp _ _ hw6
          refine ⟨tg, ws, .ref p, rfl, rfl, hw7, ?_, _, _, rfl, (B6.new np _).wtg T hw7, ws ++ [.ref p], ts ++ [fs], upd_same, ?_, ?_, ?_⟩
          · rw [tw.length, List.length_map]
            exact small1000 (by omega)
          · rw [List.map_append]
            refine TpAll.mono (TSt.wr hw7) _ _ ((TpAll.mono (TSt.of sp) _ _ tw6).snoc ?_)
            exact .tup upd_same (TpAll.mono (TSt.of sp) _ _ tD)
          · rw [List.length_append, List.length_singleton, lw]
          · intro ps hps
            rcases List.mem_append.mp hps with h | h
            · exact gw ps h
            · rw [List.mem_singleton.mp h]
              exact ⟨by omega, gf⟩
        · subst e
          refine ⟨.ref bh, rfl, bh, _, _, .ref l1, rfl, rfl, SqT.of B4.bh, atI_nat (j := 1) rfl, .inl ⟨rfl, _, SqL.of B4.l1⟩, _, rfl, tg, ws, rfl, .inl ⟨SqL.of hw, fun p np => ?_⟩⟩
          have sp : Same H4 (upd H4 p (.tup ws)) := same_new np _
          have B5 := B4.new np (.tup ws)
          have lz := B5.lz
          have B6 := (B5.cast rfl (show min k b = k by omega)).wl1 A (v := .ref p) (ts := ts) (.tup upd_same (TpAll.mono (TSt.of sp) _ _ tw)) (by omega) (by omega) gw
          refine ⟨l1, zs, .ref p, rfl, rfl, B5.l1, by rw [B5.tz.length, List.length_map]; exact small1000 (by omega), .ref bf, rfl, .inl ⟨rfl, _, SqL.of B6.bf⟩, _, rfl, (by show 2 ≤ sizeLine; decide), fun p2 np2 => ?_⟩
          have B7 := B6.new np2 (.tup [.str "variant", .int ((k : Nat) : Int)])
          have B8 := B7.wbf (r' := 2 * (k + 1)) A (v := .ref p2) (kd := .vrt k) (.tup upd_same (.cons (.str _) (.cons (.int _) .nil))) ⟨hkb, by simp [Kd.wt], by simp [Kd.dep], by simp only [Kd.rk]; omega⟩ (by omega) (by have := B1.lx; omega)
          refine ⟨bf, (xs ++ [V.ref pB]), .ref p2, rfl, rfl, B7.bf, by rw [B7.tx.length, List.length_map]; exact small1000 (by have := B1.lx; omega), ?_⟩
          exact ⟨_, _, _, _, rfl, _, _, _, _, _, _, B8.cast rfl (by omega)⟩
      · have hkb : b ≤ k := by
          have c' : ¬ ((k : Nat) : Int) < ((b : Nat) : Int) := of_decide_eq_false (Bool.eq_false_iff.mpr c)
          omega
        exact ⟨_, _, _, _, rfl, _, _, _, _, _, _, (B1.mono (show 2 * k + 1 ≤ 2 * (k + 1) by omega)).cast rfl (by omega)⟩
    · have hka : a ≤ k := by
        have c' : ¬ ((k : Nat) : Int) < ((a : Nat) : Int) := of_decide_eq_false (Bool.eq_false_iff.mpr c)
        omega
      have B1 := (B.mono (show 2 * k ≤ 2 * k + 1 by omega)).cast (show min k a = min (k + 1) a by omega) rfl
      have gV := DGet.k (k := Sum.inr ("variant" : Str)) B1.cn
      rw [val_var] at gV
      refine ⟨_, rfl, .ref cc, rfl, cc, _, rfl, gV, _, _, rfl, rfl, _, rfl, ite2 (fun c => ?_) (fun c => ?_)⟩
      · have hkb : k < b := by
          have c' : ((k : Nat) : Int) < ((b : Nat) : Int) := of_decide_eq_true c
          omega
        refine ⟨Nat.zero_le _, fun tg ntg => ?_⟩
        have T : Tg H dd rr bf l0 l1 tg := ⟨by
            cases e : H tg with
            | none => rfl
            | some o => exact absurd (B1.st _ _ e (B1.dr.freene ntg)) (by rw [ntg]; intro z; cases z), B1.dr.freene ntg, B1.dr.freene2 ntg, (ne_of_none B1.bf ntg).symm, (ne_of_none B1.l0 ntg).symm, (ne_of_none B1.l1 ntg).symm⟩
        have B2 := B1.new ntg (.lst [])
        have htg : (upd H1 tg (.lst [])) tg = some (.lst []) := upd_same
        refine ⟨_, rfl, dd, rr, rfl, B2.dr, fun x H3 hx s3 d3 => ⟨_, _, rfl, rfl, (by show (0 : Int) < 3; decide), _, _, rfl, rfl, _, rfl, ?_⟩⟩
        obtain ⟨m, hm, hm3⟩ := mod_nat x 3 (by decide)
        have em : ((1 : Int) + x % 3).toNat = m + 1 := by
          have hm' : x % 3 = (m : Int) := hm
          omega
        have lo : -(2 ^ 62) ≤ (1 : Int) + x % 3 := by
          have hm' : x % 3 = (m : Int) := hm
          omega
        have hi : (1 : Int) + x % 3 < 2 ^ 62 := by
          have hm' : x % 3 = (m : Int) := hm
          omega
        refine ⟨lo, hi, ?_⟩
        refine for_range0 (n := ((1 : Int) + x % 3).toNat) (fun i σ H' => ∃ x6 x7, σ = [some (.ref dd), some (.ref cc), some (.ref bf), some (.ref bh), some (.int ((k : Nat) : Int)), some (.ref tg), x6, x7] ∧ BI a b H dd rr cc bf bh l0 l1 (2 * k + 1) (min (k + 1) a) (min k b) H' xs ks ys rs zs vs ∧ ∃ ws ts, H' tg = some (.lst ws) ∧ TpAll H' ws (ts.map ksD) ∧ ts.length = i ∧ ∀ ps ∈ ts, ps.length ≤ 2 ∧ ∀ kd ∈ ps, Good a b (2 * k + 1) kd)
          ⟨_, _, rfl, B2.step s3 d3, [], [], s3 _ _ htg T.d, .nil, rfl, by simp⟩ (fun i σ H4 hi ⟨x6, x7, e, B4, ws, ts, hw, tw, lw, gw⟩ => ?_) (fun σ H4 ⟨x6, x7, e, B4, ws, ts, hw, tw, lw, gw⟩ => ?_)
        · subst e
          have hi3 : i < 3 := by omega
          refine ⟨.ref tg, rfl, .inl ⟨rfl, _, SqL.of hw⟩, _, rfl, dd, rr, rfl, B4.dr, fun x2 H5 hx2 s5 d5 => ⟨_, _, rfl, rfl, (by show (0 : Int) < 3; decide), _, rfl, ?_⟩⟩
          obtain ⟨m2, hm2, hm23⟩ := mod_nat x2 3 (by decide)
          have hm2' : x2 % 3 = (m2 : Int) := hm2
          refine ⟨by omega, by omega, ?_⟩
          have B5 := B4.step s5 d5
          refine lc_inside (n := (x2 % 3).toNat) (a := a) (b := b) (r := 2 * k + 1) (j := 7) (σ := [some (.ref dd), some (.ref cc), some (.ref bf), some (.ref bh), some (.int ((k : Nat) : Int)), some (.ref tg), some (.int ((i : Nat) : Int)), x7]) B5.dr B5.cn ha1 hb1 B5.bf B5.tx B5.gx (by omega) (by exact fun _ => rfl) (by exact fun _ => rfl) (by exact fun _ => rfl) (by exact fun _ => rfl) (fun Dl H6 ys' fs nD s6 d6 hD tD lf gf => ?_)
          have B6 := B5.step s6 d6
          have hw5 := s5 _ _ hw T.d
          have hw6 := s6 _ _ hw5 T.d
          have tw6 := TpAll.mono (B5.dr.ts s6) _ _ (TpAll.mono (B4.dr.ts s5) _ _ tw)
          refine ⟨Dl, ys', rfl, .inl ⟨SqL.of hD, fun p np => ?_⟩⟩
          have sp : Same H6 (upd H6 p (.tup ys')) := same_new np _
          have hw7 := sp _ _ hw6
          refine ⟨tg, ws, .ref p, rfl, rfl, hw7, ?_, _, _, rfl, (B6.new np _).wtg T hw7, ws ++ [.ref p], ts ++ [fs], upd_same, ?_, ?_, ?_⟩
          · rw [tw.length, List.length_map]
            exact small1000 (by omega)
          · rw [List.map_append]
            refine TpAll.mono (TSt.wr hw7) _ _ ((TpAll.mono (TSt.of sp) _ _ tw6).snoc ?_)
            exact .tup upd_same (TpAll.mono (TSt.of sp) _ _ tD)
          · rw [List.length_append, List.length_singleton, lw]
          · intro ps hps
            rcases List.mem_append.mp hps with h | h
            · exact gw ps h
            · rw [List.mem_singleton.mp h]
              exact ⟨by omega, gf⟩
        · subst e
          refine ⟨.ref bh, rfl, bh, _, _, .ref l1, rfl, rfl, SqT.of B4.bh, atI_nat (j := 1) rfl, .inl ⟨rfl, _, SqL.of B4.l1⟩, _, rfl, tg, ws, rfl, .inl ⟨SqL.of hw, fun p np => ?_⟩⟩
          have sp : Same H4 (upd H4 p (.tup ws)) := same_new np _
          have B5 := B4.new np (.tup ws)
          have lz := B5.lz
          have B6 := (B5.cast rfl (show min k b = k by omega)).wl1 A (v := .ref p) (ts := ts) (.tup upd_same (TpAll.mono (TSt.of sp) _ _ tw)) (by omega) (by omega) gw
          refine ⟨l1, zs, .ref p, rfl, rfl, B5.l1, by rw [B5.tz.length, List.length_map]; exact small1000 (by omega), .ref bf, rfl, .inl ⟨rfl, _, SqL.of B6.bf⟩, _, rfl, (by show 2 ≤ sizeLine; decide), fun p2 np2 => ?_⟩
          have B7 := B6.new np2 (.tup [.str "variant", .int ((k : Nat) : Int)])
          have B8 := B7.wbf (r' := 2 * (k + 1)) A (v := .ref p2) (kd := .vrt k) (.tup upd_same (.cons (.str _) (.cons (.int _) .nil))) ⟨hkb, by simp [Kd.wt], by simp [Kd.dep], by simp only [Kd.rk]; omega⟩ (by omega) (by have := B1.lx; omega)
          refine ⟨bf, xs, .ref p2, rfl, rfl, B7.bf, by rw [B7.tx.length, List.length_map]; exact small1000 (by have := B1.lx; omega), ?_⟩
          exact ⟨_, _, _, _, rfl, _, _, _, _, _, _, B8.cast rfl (by omega)⟩
      · have hkb : b ≤ k := by
          have c' : ¬ ((k : Nat) : Int) < ((b : Nat) : Int) := of_decide_eq_false (Bool.eq_false_iff.mpr c)
          omega
        exact ⟨_, _, _, _, rfl, _, _, _, _, _, _, (B1.mono (show 2 * k + 1 ≤ 2 * (k + 1) by omega)).cast rfl (by omega)⟩
  · subst e
    refine ⟨.ref bh, rfl, bh, _, _, .ref l0, rfl, rfl, SqT.of B.bh, atI_nat (j := 0) rfl, l0, ys, rfl, .inl ⟨SqL.of B.l0, fun p np => ?_⟩⟩
    have sp : Same H1 (upd H1 p (.tup ys)) := same_new np _
    have B2 := B.new np (.tup ys)
    have tp : Tp (upd H1 p (.tup ys)) (.ref p) (tsD rs) := .tup upd_same (TpAll.mono (TSt.of sp) _ _ B.ty)
    generalize upd H1 p (.tup ys) = H2 at *
    refine ⟨.ref bh, rfl, bh, _, _, .ref l1, rfl, rfl, SqT.of B2.bh, atI_nat (j := 1) rfl, l1, zs, rfl, .inl ⟨SqL.of B2.l1, fun p2 np2 => ⟨(by show 2 ≤ sizeLine; decide), fun p3 np3 => ?_⟩⟩⟩
    have sp2 : Same H2 (upd H2 p2 (.tup zs)) := same_new np2 _
    have B3 := B2.new np2 (.tup zs)
    have tp2 : Tp (upd H2 p2 (.tup zs)) (.ref p2) (.tuple (vs.map tsD)) := .tup upd_same (TpAll.mono (TSt.of sp2) _ _ B2.tz)
    have sp3 : Same (upd H2 p2 (.tup zs)) (upd (upd H2 p2 (.tup zs)) p3 (.tup [.ref p, .ref p2])) := same_new np3 _
    have B4 := B3.new np3 (.tup [.ref p, .ref p2])
    have lr := B4.ly
    have lv := B4.lz
    have er : rs.length = a := by omega
    have ev : vs.length = b := by omega
    refine q (.ref p3) ⟨rs, vs⟩ _ B4.st B4.dr ⟨by show 1 ≤ rs.length; omega, by show rs.length ≤ 3; omega, by show 1 ≤ vs.length; omega, by show vs.length ≤ 3; omega, ?_, ?_⟩ (.tup upd_same (.cons (Tp.mono (TSt.of (sp2.trans sp3)) _ _ tp) (.cons (Tp.mono (TSt.of sp3) _ _ tp2) .nil)))
    · show ∀ n fs, rs[n]? = some fs → fs.length ≤ 3 ∧ ∀ k ∈ fs, Good rs.length vs.length (2 * n) k
      rw [er, ev]
      exact B4.rf
    · show ∀ n ts, vs[n]? = some ts → 1 ≤ ts.length ∧ ts.length ≤ 3 ∧ ∀ ps ∈ ts, ps.length ≤ 2 ∧ ∀ k ∈ ps, Good rs.length vs.length (2 * n + 1) k
      rw [er, ev]
      exact B4.vf
end
end My
set_option maxRecDepth 100000
set_option maxHeartbeats 4000000
namespace My
open PySem L2
theorem Room.u65 {k : Nat} {A : Around} (r : Room k A) : A.units + 65 < cLine := by have := r.un; omega
def spFin (B : Bk) (n : Nat) : Sp := fun vs H Q _ => ∃ b k kd sn xs seen, vs = [b, k, .ref sn] ∧ Tp H b (bkD B) ∧ Tp H k (kdD kd) ∧ KG B kd ∧ H sn = some (.lst xs) ∧ TpAll H xs (seen.map kdD) ∧ (∀ s ∈ seen, s.dep ≤ 4) ∧ seen.length + free B seen ≤ 50 ∧ 5 * free B seen + kd.dep ≤ n ∧ ∀ H', Same H H' → Q (.bl (fin B n seen kd)) H'
theorem lc_fin {B : Bk} {K : PySem.W.Frag} {m : Nat} {sp : Sp} (hsp : ∀ vs H Q E, spFin B m vs H Q E → sp vs H Q E) {H0 : Hp} {a : Addr} {xs : List V} {b : V} {fs seen : List Kd} {σ : L2.St} {i0 j : Nat} {t3 : TE} {E : XK} {Qd : Addr → Hp → Prop} (ha : H0 a = some (.tup xs)) (hx : TpAll H0 xs (fs.map kdD)) (hb : Tp H0 b (bkD B))
    (hfs : ∀ kd ∈ fs, KG B kd) (hl : fs.length ≤ 1000) (hseen : ∀ s ∈ seen, s.dep ≤ 4) (hls : seen.length + free B seen ≤ 50) (hm : ∀ kd ∈ fs, 5 * free B seen + kd.dep ≤ m) (s0 : ∀ x, ((wipe σ [j]).set j (some x))[i0]? = some (some b)) (sj : ∀ x, ((wipe σ [j]).set j (some x))[j]? = some (some x)) (sw : ∀ x, wipe ((wipe σ [j]).set j (some x)) [j] = wipe σ [j])
    (h3 : ∀ (x : V) (H2 : Hp) (Q : VK), Same H0 H2 → (∀ sn xs' H3, Same H2 H3 → H3 sn = some (.lst xs') → TpAll H3 xs' (seen.map kdD) → Q (.ref sn) H3) → t3 ((wipe σ [j]).set j (some x)) H2 Q)
    (q : ∀ (D : Addr) (H' : Hp) (ys : List V) (ks : List Kd), Same H0 H' → H' D = some (.lst ys) → TpAll H' ys (ks.map kdD) → (∀ k ∈ ks, k.dep ≤ 4) → ks.isEmpty = fs.all (fun f => fin B m seen f) → Qd D H') :
    ∀ D, H0 D = none → ∃ W : Nat → Nat → Hp → Prop, (∃ m, W 0 m (upd H0 D (.lst []))) ∧ ∀ i m H, W i m H →
      ((Itt K a).stop i H ∧ Qd D H) ∨ ((Itt K a).go i H ∧ ∃ Nx : Hp → Prop, (∀ H', Nx H' → ∃ m', m' < m ∧ W (i + 1) m' H') ∧ ∀ x H', (Itt K a).yld i H x H' → gName j x (wipe σ [j]) H' fun σ2 H2 => wipe σ2 [j] = wipe σ [j] ∧ tNot (tB (tCall sp [] E (tCons (tVar i0) (tCons (tVar j) (tCons t3 tNil))))) σ2 H2 fun b H3 =>
        if b = true then tVar j σ2 H3 fun y H4 => ∃ acc, H4 D = some (.lst acc) ∧ acc.length < sizeLine ∧ Nx (upd H4 D (.lst (acc ++ [y]))) else Nx H3) := by
  have hlx := hx.length
  rw [List.length_map] at hlx
  refine fun Dl nD => lc_tup (K := K) (a := a) (xs := xs) (fun i H' => Same H0 H' ∧ ∃ ys ks, H' Dl = some (.lst ys) ∧ TpAll H' ys (ks.map kdD) ∧ (∀ k ∈ ks, k.dep ≤ 4) ∧ ks.length ≤ i ∧ ks.isEmpty = (fs.take i).all (fun f => fin B m seen f)) ⟨same_new nD _, [], [], upd_same, .nil, by simp, Nat.le_refl _, rfl⟩
    (fun i H' _ p => SqT.of (p.1 _ _ ha)) (fun i x H' hx' ⟨s1, ys, ks, hD, ty, dy, ly, ey⟩ => ?_) (fun H' ⟨s1, ys, ks, hD, ty, dy, ly, ey⟩ => ?_)
  · obtain ⟨d, hd, hxd⟩ := hx.at' hx'
    obtain ⟨kf, hkf, rfl⟩ : ∃ kf, fs[i]? = some kf ∧ kdD kf = d := by
      rw [List.getElem?_map] at hd
      exact Option.map_eq_some_iff.mp hd
    have hi := (List.getElem?_eq_some_iff.mp hkf).1
    have hg := hfs kf (List.mem_of_getElem? hkf)
    have et : (fs.take (i + 1)).all (fun f => fin B m seen f) = ((fs.take i).all (fun f => fin B m seen f) && fin B m seen kf) := by
      rw [List.take_add_one, hkf, List.all_append]
      simp
    refine ⟨sw x, b, s0 x, x, sj x, h3 x H' _ s1 fun sn xs' H3 s3 hsn hxs' => hsp _ _ _ _ ⟨b, x, kf, sn, xs', seen, rfl, Tp.mono (TSt.of (s1.trans s3)) _ _ hb, Tp.mono (TSt.of (s1.trans s3)) _ _ hxd, hg, hsn, hxs', hseen, hls, hm kf (List.mem_of_getElem? hkf), fun H4 s4 => ⟨_, rfl, ite2 (fun c => ?_) (fun c => ?_)⟩⟩⟩
    · have c' : fin B m seen kf = false := by simpa using c
      have s14 := (s1.trans s3).trans s4
      have hD4 := (s3.trans s4) _ _ hD
      refine ⟨x, sj x, ys, hD4, ?_, Same.writ s14 nD _, ys ++ [x], ks ++ [kf], upd_same, ?_, ?_, ?_, ?_⟩
      · rw [ty.length, List.length_map]
        exact small1000 (by omega)
      · rw [List.map_append]
        exact TpAll.mono (TSt.wr hD4) _ _ ((TpAll.mono (TSt.of (s3.trans s4)) _ _ ty).snoc (Tp.mono (TSt.of s14) _ _ hxd))
      · intro k hk
        rcases List.mem_append.mp hk with h | h
        · exact dy k h
        · rw [List.mem_singleton.mp h]
          exact hg.dep
      · rw [List.length_append, List.length_singleton]
        omega
      · rw [et, c', Bool.and_false]
        simp
    · have c' : fin B m seen kf = true := by simpa using c
      exact ⟨(s1.trans s3).trans s4, ys, ks, (s3.trans s4) _ _ hD, TpAll.mono (TSt.of (s3.trans s4)) _ _ ty, dy, by omega, by rw [et, c', Bool.and_true, ey]⟩
  · rw [hlx, List.take_length] at ey
    exact q Dl H' ys ks s1 hD ty dy ey
section
variable {P : Program} {w : World} {K : PySem.W.Frag} {mg : Str → Option Value} {base : Heap}
abbrev pFin : List Str := ["_law_book_here", "_law_kind", "_law_seen"]
abbrev nFin : List Str := ["_law_book_here", "_law_kind", "_law_seen", "_law_one"]
theorem scFin : FnScope nFin pFin (defScope sFinite) := ⟨rfl, rfl, rfl, by decide +kernel, rfl, by decide +kernel, by decide +kernel⟩
theorem ok_fin {B : Bk} (O : B.Ok) {n k : Nat} {f : Addr} {fd : FuncData} (D : Df K mg "_law_finite" sFinite pFin f fd) (N : Nm K w mg)
    (G : FnOk P w K mg base CX0 k f fd pFin (fun vs H Q E => ∃ m, m < n ∧ spFin B m vs H Q E)) : FnOk P w K mg base CX0 (k + 1) f fd pFin (spFin B n) := by
  refine D.F.ok scFin (fun vs H Q E h => ?_) (fun cdv A outer s H vs Q E hr h => ?_)
  · obtain ⟨b, k, kd, sn, xs, seen, rfl, _⟩ := h
    rfl
  obtain ⟨b, kx, kd, sn, xs, seen, rfl, hb, hk, hg, hsn, hxs, hds, hls, hm, q⟩ := h
  have hu65 := Room.u65 hr
  refine ⟨_, pss_cons (ps_if (pt_cmpR (op_inD hu65) (pv 1) (pv 2) (by rfl)) (pss_one (ps_ret (pe_bl))) pss_nil) (pss_cons (ps_if (pt_cmpR op_eqS (pe_ix ix_head (pv 1) pe_int (fun _ _ => rfl)) pe_str (nomark _)) (pss_one (ps_ret (cl D G hr (pa_cons (pv 0) (pa_cons (pe_ix ix_item (pv 1) (pe_int) (fun _ _ => rfl)) (pa_cons (pv 2) (pa_nil))))))) pss_nil) (pss_cons (ps_if (pt_cmpR op_eqS (pe_ix ix_head (pv 1) pe_int (fun _ _ => rfl)) pe_str (nomark _)) (pss_one (ps_ret (pe_cmpR (op_eqD hr.units) (pe_lc (own := [("_law_one", 3)]) (g := gName 3) (tt := _) rfl scFin.nd (pi_tup (pe_ix ix_item (pe_ix ix_item (pv 0) (pe_int) (fun _ _ => rfl)) (pe_ix ix_item (pv 1) (pe_int) (fun _ _ => rfl)) (fun _ _ => rfl))) (blkOk_by (own := [("_law_one", 3)]) (N := nFin) (sc := defScope sFinite) (by decide +kernel)) (fun _ _ _ _ _ => pg_name (i := 3) scFin.nd rfl (Or.inl rfl)) (fun _ _ _ _ _ => pts_one (pt_not (pt_val (cl D G hr (pa_cons (pv 0) (pa_cons (pv 3) (pa_cons (pe_op op_cat (pv 2) (pe_lst (pa_cons (pv 1) (pa_nil)))) (pa_nil)))))))) (fun _ _ _ _ _ => pv 3)) (pe_lst (pa_nil)) (nomark _)))) pss_nil) (pss_cons (ps_if (pt_cmpR op_eqS (pe_ix ix_head (pv 1) pe_int (fun _ _ => rfl)) pe_str (nomark _)) (pss_one (ps_ret (pe_cmpR (op_eqD hr.units) (pe_lc (own := [("_law_one", 3)]) (g := gName 3) (tt := _) rfl scFin.nd (pi_tup (pe_ix ix_item (pe_ix ix_item (pe_ix ix_item (pv 0) (pe_int) (fun _ _ => rfl)) (pe_ix ix_item (pv 1) (pe_int) (fun _ _ => rfl)) (fun _ _ => rfl)) (pe_int) (fun _ _ => rfl))) (blkOk_by (own := [("_law_one", 3)]) (N := nFin) (sc := defScope sFinite) (by decide +kernel)) (fun _ _ _ _ _ => pg_name (i := 3) scFin.nd rfl (Or.inl rfl)) (fun _ _ _ _ _ => pts_one (pt_not (pt_val (cl D G hr (pa_cons (pv 0) (pa_cons (pv 3) (pa_cons (pe_op op_cat (pv 2) (pe_lst (pa_cons (pv 1) (pa_nil)))) (pa_nil)))))))) (fun _ _ _ _ _ => pv 3)) (pe_lst (pa_nil)) (nomark _)))) pss_nil) (pss_one (ps_ret (pe_bl)))))), ?_⟩
  obtain ⟨m, rfl⟩ : ∃ m, n = m + 1 := ⟨n - 1, by have : 1 ≤ kd.dep := by { cases kd <;> simp [Kd.dep] }; omega⟩
  refine ⟨_, rfl, _, rfl, kdD kd, seen.map kdD, Tp.dp _ _ hk, .lst (SqL.of hsn) (TpAll.dp _ _ hxs), shaped_kd hg.dep, shaped_kds hds, _, rfl, ?_⟩
  rw [any_kd]
  refine ite2 (fun c => ?_) (fun c => ?_)
  · have c' : kd ∈ seen := of_decide_eq_true c
    have e : fin B (m + 1) seen kd = false := by unfold fin; rw [if_pos c']
    rw [e] at q
    exact q H (Same.refl H)
  have ns : kd ∉ seen := fun z => c (decide_eq_true z)
  refine ⟨_, rfl, rfl, kd, hk, _, _, rfl, rfl, _, rfl, ite2 (fun c => ?_) (fun c1 => ?_)⟩
  · obtain ⟨j, rfl⟩ := hd_box c
    have e : fin B (m + 1) seen (.box j) = fin B m seen j := by
      show (if Kd.box j ∈ seen then false else fin B m seen j) = _
      rw [if_neg ns]
    rw [e] at q
    simp only [Kd.dep] at hm
    exact ⟨b, rfl, _, rfl, _, 1, _, hk, rfl, rfl, fun z hz => ⟨_, rfl, m, Nat.lt_succ_self m, b, z, j, sn, xs, seen, rfl, hb, hz, KG.box O hg, hsn, hxs, hds, hls, by omega, q⟩⟩
  -- seen + [kind]
  have cat : ∀ (x : V) (H2 : Hp) (Q : VK), Same H H2 → (∀ sn' xs' H3, Same H2 H3 → H3 sn' = some (.lst xs') → TpAll H3 xs' ((seen ++ [kd]).map kdD) → Q (.ref sn') H3) → tOp rCat (tVar 2) (tLst (tCons (tVar 1) tNil)) ((wipe [some b, some kx, some (.ref sn), none] [3]).set 3 (some x)) H2 Q := by
    intro x H2 Q s2 qq
    refine ⟨_, rfl, _, rfl, (by show 1 ≤ sizeLine; decide), fun p np => ?_⟩
    have sp : Same H2 (upd H2 p (.lst [kx])) := same_new np _
    refine ⟨sn, p, xs, [kx], rfl, rfl, sp _ _ (s2 _ _ hsn), upd_same, ?_, fun t nt => ?_⟩
    · rw [hxs.length, List.length_map]
      exact small (by simp only [List.length_singleton]; omega)
    · have st : Same (upd H2 p (.lst [kx])) (upd (upd H2 p (.lst [kx])) t (.lst (xs ++ [kx]))) := same_new nt _
      have sa := (s2.trans sp).trans st
      refine qq t _ _ (sp.trans st) upd_same ?_
      rw [List.map_append]
      exact (TpAll.mono (TSt.of sa) _ _ hxs).snoc (Tp.mono (TSt.of sa) _ _ hk)
  have hds' : ∀ s ∈ seen ++ [kd], s.dep ≤ 4 := fun s hs => by
    rcases List.mem_append.mp hs with h | h
    · exact hds s h
    · rw [List.mem_singleton.mp h]
      exact hg.dep
  refine ⟨_, rfl, rfl, kd, hk, _, _, rfl, rfl, _, rfl, ite2 (fun c => ?_) (fun c2 => ?_)⟩
  · obtain ⟨j, rfl⟩ := hd_rcd c
    have hn : j < B.rs.length := hg.fits
    obtain ⟨fs, e⟩ : ∃ fs, B.rs[j]? = some fs := ⟨_, List.getElem?_eq_getElem hn⟩
    have hfs := O.rf j fs e
    have ef : fin B (m + 1) seen (.rcd j) = fs.all (fun f => fin B m (seen ++ [.rcd j]) f) := by
      show (if Kd.rcd j ∈ seen then false else (B.rs.getD j []).all fun f => fin B m (seen ++ [.rcd j]) f) = _
      rw [if_neg ns, getD_of e]
    have lt := free_lt (named_rec hn) ns
    have fr := free_le O seen
    rw [ef] at q
    refine ⟨b, rfl, _, 0, _, hb, rfl, rfl, fun z hz => ⟨_, rfl, _, 1, _, hk, rfl, rfl, fun z2 hz2 => ?_⟩⟩
    cases hz2
    refine ⟨_, j, _, hz, rfl, rs_at e, fun z3 hz3 => ?_⟩
    obtain ⟨a, ys, rfl, ha, hx, hl⟩ := hz3.open
    refine ⟨a, rfl, ⟨ys, SqT.of ha⟩, ?_⟩
    refine lc_fin (B := B) (K := K) (m := m) (fun vs H Q E h => ⟨m, Nat.lt_succ_self m, h⟩) (σ := [some b, some kx, some (.ref sn), none]) (j := 3) (fs := fs) (seen := seen ++ [.rcd j]) ha hx hb (fun kf hkf => (hfs.2 kf hkf).mono (by have := O.r3; omega)) (by omega) hds' (by rw [List.length_append, List.length_singleton]; omega) (fun kf hkf => by have := (hfs.2 kf hkf).dep; simp only [Kd.dep] at hm; omega) (by exact fun _ => rfl) (by exact fun _ => rfl) (by exact fun _ => rfl) cat (fun Dl H' zs ks s1 hD tz dz ez => ?_)
    refine ⟨Nat.zero_le _, fun p np => ?_⟩
    have sp : Same H' (upd H' p (.lst [])) := same_new np _
    refine ⟨.list (ks.map kdD), .list [], .lst (SqL.of (sp _ _ hD)) (TpAll.dp _ _ (TpAll.mono (TSt.of sp) _ _ tz)), .lst (SqL.of upd_same) .nil, shaped_kds dz, shaped_nil, ?_⟩
    rw [eqv_nil, show (ks.map kdD).isEmpty = ks.isEmpty by cases ks <;> rfl, ez]
    exact q _ (s1.trans sp)
  refine ⟨_, rfl, rfl, kd, hk, _, _, rfl, rfl, _, rfl, ite2 (fun c => ?_) (fun c3 => ?_)⟩
  · obtain ⟨j, rfl⟩ := hd_vrt c
    have hn : j < B.vs.length := hg.fits
    obtain ⟨ts, e⟩ : ∃ ts, B.vs[j]? = some ts := ⟨_, List.getElem?_eq_getElem hn⟩
    have hts := O.vf j ts e
    obtain ⟨fs, e0⟩ : ∃ fs, ts[0]? = some fs := ⟨_, List.getElem?_eq_getElem (show 0 < ts.length from hts.1)⟩
    have hfs := hts.2.2 fs (List.mem_of_getElem? e0)
    have ef : fin B (m + 1) seen (.vrt j) = fs.all (fun f => fin B m (seen ++ [.vrt j]) f) := by
      show (if Kd.vrt j ∈ seen then false else ((B.vs.getD j []).getD 0 []).all fun f => fin B m (seen ++ [.vrt j]) f) = _
      rw [if_neg ns, getD_of e, getD_of e0]
    have lt := free_lt (named_var hn) ns
    have fr := free_le O seen
    rw [ef] at q
    refine ⟨b, rfl, _, 1, _, hb, rfl, rfl, fun z hz => ⟨_, rfl, _, 1, _, hk, rfl, rfl, fun z2 hz2 => ?_⟩⟩
    cases hz2
    refine ⟨_, j, _, hz, rfl, vs_at e, fun z3' hz3' => ⟨_, 0, _, hz3', rfl, ts_at e0, fun z3 hz3 => ?_⟩⟩
    obtain ⟨a, ys, rfl, ha, hx, hl⟩ := hz3.open
    refine ⟨a, rfl, ⟨ys, SqT.of ha⟩, ?_⟩
    refine lc_fin (B := B) (K := K) (m := m) (fun vs H Q E h => ⟨m, Nat.lt_succ_self m, h⟩) (σ := [some b, some kx, some (.ref sn), none]) (j := 3) (fs := fs) (seen := seen ++ [.vrt j]) ha hx hb (fun kf hkf => (hfs.2 kf hkf).mono (by have := O.v3; omega)) (by omega) hds' (by rw [List.length_append, List.length_singleton]; omega) (fun kf hkf => by have := (hfs.2 kf hkf).dep; simp only [Kd.dep] at hm; omega) (by exact fun _ => rfl) (by exact fun _ => rfl) (by exact fun _ => rfl) cat (fun Dl H' zs ks s1 hD tz dz ez => ?_)
    refine ⟨Nat.zero_le _, fun p np => ?_⟩
    have sp : Same H' (upd H' p (.lst [])) := same_new np _
    refine ⟨.list (ks.map kdD), .list [], .lst (SqL.of (sp _ _ hD)) (TpAll.dp _ _ (TpAll.mono (TSt.of sp) _ _ tz)), .lst (SqL.of upd_same) .nil, shaped_kds dz, shaped_nil, ?_⟩
    rw [eqv_nil, show (ks.map kdD).isEmpty = ks.isEmpty by cases ks <;> rfl, ez]
    exact q _ (s1.trans sp)
  · have ef : fin B (m + 1) seen kd = true := by
      unfold fin
      rw [if_neg ns]
      cases kd with
      | box j => exact absurd (decide_eq_true rfl) c1
      | rcd j => exact absurd (decide_eq_true rfl) c2
      | vrt j => exact absurd (decide_eq_true rfl) c3
      | _ => rfl
    rw [ef] at q
    exact q H (Same.refl H)
theorem all_fin {B : Bk} (O : B.Ok) {f : Addr} {fd : FuncData} (D : Df K mg "_law_finite" sFinite pFin f fd) (N : Nm K w mg) : ∀ n, FnOk P w K mg base CX0 (n + 1) f fd pFin (spFin B n) := fun n =>
  Nat.strongRecOn n fun n ih => ok_fin O D N (FnOk.below fun m hm => (ih m hm).mono (by omega))
end
end My
set_option maxRecDepth 100000
set_option maxHeartbeats 4000000
namespace My
open PySem L2
def Cnd (B : Bk) (deep : Int) (n : Nat) (kd : Kd) : Prop := (0 < deep ∧ FinD B 28 kd ∧ 28 + 2 * deep ≤ n) ∨ (deep ≤ 0 ∧ FinD B n kd)
theorem cnd_next {B : Bk} {deep : Int} {n : Nat} {f : Kd} (h : 0 < deep) (hn : 28 + 2 * deep ≤ n) (hf : FinD B 28 f) : Cnd B (deep - 1) (n - 2) f := by
  by_cases h1 : 0 < deep - 1
  · exact .inl ⟨h1, hf, by omega⟩
  · exact .inr ⟨by omega, hf.mono (by omega)⟩
theorem cnd_rec {B : Bk} {deep : Int} {n j : Nat} {fs : List Kd} (h : Cnd B deep n (.rcd j)) (e : B.rs[j]? = some fs) : 2 ≤ n ∧ ∀ f ∈ fs, Cnd B (deep - 1) (n - 2) f := by
  rcases h with ⟨h0, hf, hn⟩ | ⟨h0, hf⟩
  · refine ⟨by omega, fun f hff => ?_⟩
    generalize e28 : 28 = m at hf
    cases hf with
    | rcd e' hfs =>
      rw [e] at e'
      cases e'
      exact cnd_next h0 hn ((hfs f hff).mono (by omega))
  · cases hf with
    | rcd e' hfs =>
      rw [e] at e'
      cases e'
      exact ⟨by omega, fun f hff => .inr ⟨by omega, hfs f hff⟩⟩
theorem cnd_var {B : Bk} {deep : Int} {n j : Nat} {ts : List (List Kd)} {fs : List Kd} (h : Cnd B deep n (.vrt j)) (e : B.vs[j]? = some ts) (e0 : ts[0]? = some fs) : 2 ≤ n ∧ ∀ f ∈ fs, Cnd B (deep - 1) (n - 2) f := by
  rcases h with ⟨h0, hf, hn⟩ | ⟨h0, hf⟩
  · refine ⟨by omega, fun f hff => ?_⟩
    generalize e28 : 28 = m at hf
    cases hf with
    | vrt e' e0' hfs =>
      rw [e] at e'
      cases e'
      rw [e0] at e0'
      cases e0'
      exact cnd_next h0 hn ((hfs f hff).mono (by omega))
  · cases hf with
    | vrt e' e0' hfs =>
      rw [e] at e'
      cases e'
      rw [e0] at e0'
      cases e0'
      exact ⟨by omega, fun f hff => .inr ⟨by omega, hfs f hff⟩⟩
theorem cnd_box {B : Bk} {deep : Int} {n : Nat} {j : Kd} (h : Cnd B deep n (.box j)) : 1 ≤ n ∧ Cnd B (deep - 1) (n - 1) j := by
  rcases h with ⟨h0, hf, hn⟩ | ⟨h0, hf⟩
  · refine ⟨by omega, ?_⟩
    generalize e28 : 28 = m at hf
    cases hf with
    | box hf =>
      by_cases h1 : 0 < deep - 1
      · exact .inl ⟨h1, hf.mono (by omega), by omega⟩
      · exact .inr ⟨by omega, hf.mono (by omega)⟩
  · cases hf with
    | box hf => exact ⟨by omega, .inr ⟨by omega, hf⟩⟩
theorem cnd_vec {B : Bk} {deep : Int} {n : Nat} {j : Kd} (h : Cnd B deep n (.vec j)) : 2 ≤ n := by
  rcases h with ⟨h0, hf, hn⟩ | ⟨h0, hf⟩
  · omega
  · cases hf with
    | vec h2 => exact h2
def Vl (B : Bk) (m : Nat) (f : Kd) (d : PyData) : Prop := gd 10 m d ∧ ∀ N, m ≤ N → isVF B N f d = true
def PV (B : Bk) (m : Nat) (dd rr : Addr) (H0 : Hp) (D : Addr) (fs : List Kd) (i : Nat) (H' : Hp) : Prop :=
  St1 dd H0 H' ∧ Dr H' dd rr ∧ ∃ ys ds, H' D = some (.lst ys) ∧ TpAll H' ys ds ∧ ds.length = i ∧ ∀ (j : Nat) (d : PyData), ds[j]? = some d → ∃ f, fs[j]? = some f ∧ Vl B m f d
theorem pv_0 {B : Bk} {m : Nat} {dd rr : Addr} {H0 : Hp} {D : Addr} {fs : List Kd} (d : Dr H0 dd rr) (nD : H0 D = none) : PV B m dd rr H0 D fs 0 (upd H0 D (.lst [])) :=
  ⟨(St1.refl dd H0).new nD _, d.same (same_new nD _), [], [], upd_same, .nil, rfl, fun j d h => by simp at h⟩
theorem pv_step {B : Bk} {m : Nat} {dd rr : Addr} {H0 H' H4 : Hp} {D : Addr} {fs : List Kd} {i : Nat} {f : Kd} {v : V} {d : PyData} (p : PV B m dd rr H0 D fs i H') (d0 : Dr H0 dd rr) (nD : H0 D = none) (ef : fs[i]? = some f) (hl : fs.length ≤ 1000) (s4 : St1 dd H' H4) (d4 : Dr H4 dd rr) (tv : Tp H4 v d) (hv : Vl B m f d) :
    ∃ acc, H4 D = some (.lst acc) ∧ acc.length < sizeLine ∧ PV B m dd rr H0 D fs (i + 1) (upd H4 D (.lst (acc ++ [v]))) := by
  obtain ⟨st, dr, ys, ds, hD, ty, ly, hy⟩ := p
  have nDd : D ≠ dd := d0.freene nD
  have nDr : D ≠ rr := d0.freene2 nD
  have hD4 := s4 _ _ hD nDd
  have hi := (List.getElem?_eq_some_iff.mp ef).1
  refine ⟨ys, hD4, ?_, (st.trans s4).writ nD _, d4.wr nDd nDr, ys ++ [v], ds ++ [d], upd_same, ?_, ?_, fun j e he => ?_⟩
  · rw [ty.length]
    exact small1000 (by omega)
  · exact TpAll.mono (TSt.wr hD4) _ _ ((TpAll.mono (dr.ts s4) _ _ ty).snoc tv)
  · rw [List.length_append, List.length_singleton, ly]
  · rcases snoc_at he with he | ⟨rfl, rfl⟩
    · exact hy j e he
    · rw [ly]
      exact ⟨f, ef, hv⟩
theorem allF_true {g : Kd → PyData → Bool} {fs : List Kd} {ds : List PyData} (hl : fs.length = ds.length) (h : ∀ (j : Nat) (d : PyData), ds[j]? = some d → ∃ f, fs[j]? = some f ∧ g f d = true) : allF g fs ds = true := by
  unfold allF
  rw [decide_eq_true hl, Bool.true_and, List.all_eq_true]
  intro p hp
  obtain ⟨j, hj⟩ := List.getElem?_of_mem hp
  obtain ⟨h1, h2⟩ := List.getElem?_zip_eq_some.mp hj
  obtain ⟨f, h3, h4⟩ := h j p.2 h2
  rw [h1] at h3
  cases h3
  exact h4
theorem strOk_rec : PyData.strOk "record" = true := by decide +kernel
theorem strOk_var : PyData.strOk "variant" = true := by decide +kernel
theorem strOk_box : PyData.strOk "box" = true := by decide +kernel
theorem strOk_vec : PyData.strOk "vec" = true := by decide +kernel
theorem gd_str {w n : Nat} {x : Str} (h : PyData.strOk x = true) : gd w n (.str x) := by cases n <;> exact h
theorem gd_int {w n : Nat} {x : Int} : gd w n (.int x) := by cases n <;> trivial
theorem gd_bool {w n : Nat} {x : Bool} : gd w n (.bool x) := by cases n <;> trivial
theorem gd_cons {w n : Nat} {x : PyData} {r : List PyData} (h : gd w n x) (hr : ∀ d ∈ r, gd w n d) : ∀ d ∈ x :: r, gd w n d := fun d hd => by
  rcases List.mem_cons.mp hd with e | e
  · rw [e]; exact h
  · exact hr d e
theorem gd_none {w n : Nat} : ∀ d ∈ ([] : List PyData), gd w n d := fun d hd => by simp at hd
section
variable {B : Bk} {n : Nat} {ds : List PyData}
theorem vl_parts {fs : List Kd} {m : Nat} (hl : ds.length = fs.length) (h3 : fs.length ≤ 3) (h : ∀ (j : Nat) (d : PyData), ds[j]? = some d → ∃ f, fs[j]? = some f ∧ Vl B m f d) : gd 10 (m + 1) (.tuple ds) ∧ ∀ N, m ≤ N → allF (isVF B N) fs ds = true := by
  refine ⟨⟨by omega, fun d hd => ?_⟩, fun N hN => allF_true hl.symm fun j d e => ?_⟩
  · obtain ⟨j, hj⟩ := List.getElem?_of_mem hd
    obtain ⟨f, _, hv⟩ := h j d hj
    exact hv.1
  · obtain ⟨f, ef, hv⟩ := h j d e
    exact ⟨f, ef, hv.2 N hN⟩
theorem vl_rec {j : Nat} {fs : List Kd} (h2 : 2 ≤ n) (e : B.rs[j]? = some fs) (hl : ds.length = fs.length) (h3 : fs.length ≤ 3) (h : ∀ (j : Nat) (d : PyData), ds[j]? = some d → ∃ f, fs[j]? = some f ∧ Vl B (n - 2) f d) : Vl B n (.rcd j) (.tuple [.str "record", .tuple ds]) := by
  obtain ⟨m, rfl⟩ : ∃ m, n = m + 2 := ⟨n - 2, by omega⟩
  obtain ⟨g1, g2⟩ := vl_parts hl h3 h
  refine ⟨⟨by simp, gd_cons (gd_str strOk_rec) (gd_cons g1 gd_none)⟩, fun N hN => ?_⟩
  obtain ⟨N', rfl⟩ : ∃ N', N = N' + 1 := ⟨N - 1, by omega⟩
  show on1 _ (tl "record" (.tuple (.str "record" :: [.tuple ds]))) = true
  rw [tl_eq, getD_of e]
  exact g2 N' (by omega)
theorem vl_var {j t : Nat} {ts : List (List Kd)} {fs : List Kd} (h2 : 2 ≤ n) (e : B.vs[j]? = some ts) (et : ts[t]? = some fs) (hl : ds.length = fs.length) (h3 : fs.length ≤ 3) (h : ∀ (j : Nat) (d : PyData), ds[j]? = some d → ∃ f, fs[j]? = some f ∧ Vl B (n - 2) f d) : Vl B n (.vrt j) (.tuple [.str "variant", .int ((t : Nat) : Int), .tuple ds]) := by
  obtain ⟨m, rfl⟩ : ∃ m, n = m + 2 := ⟨n - 2, by omega⟩
  obtain ⟨g1, g2⟩ := vl_parts hl h3 h
  refine ⟨⟨by simp, gd_cons (gd_str strOk_var) (gd_cons gd_int (gd_cons g1 gd_none))⟩, fun N hN => ?_⟩
  obtain ⟨N', rfl⟩ : ∃ N', N = N' + 1 := ⟨N - 1, by omega⟩
  show on2 _ (tl "variant" (.tuple (.str "variant" :: [.int ((t : Nat) : Int), .tuple ds]))) = true
  rw [tl_eq, getD_of e]
  have ht := (List.getElem?_eq_some_iff.mp et).1
  show ((decide (0 ≤ ((t : Nat) : Int)) && decide (((t : Nat) : Int) < (ts.length : Int))) && allF (isVF B N') (ts.getD (((t : Nat) : Int)).toNat []) ds) = true
  rw [decide_eq_true (by omega), decide_eq_true (by omega), Int.toNat_natCast, getD_of et, g2 N' (by omega)]
  rfl
theorem vl_box {j : Kd} {d : PyData} (h1 : 1 ≤ n) (h : Vl B (n - 1) j d) : Vl B n (.box j) (.tuple [.str "box", d]) := by
  obtain ⟨m, rfl⟩ : ∃ m, n = m + 1 := ⟨n - 1, by omega⟩
  refine ⟨⟨by simp, gd_cons (gd_str strOk_box) (gd_cons h.1 gd_none)⟩, fun N hN => ?_⟩
  obtain ⟨N', rfl⟩ : ∃ N', N = N' + 1 := ⟨N - 1, by omega⟩
  show on1 _ (tl "box" (.tuple (.str "box" :: [d]))) = true
  rw [tl_eq]
  exact h.2 N' (by show m ≤ N'; omega)
theorem vl_vec {j : Kd} {mm : Nat} (h2 : 2 ≤ n) (hm : mm ≤ 3) (hl : ds.length = mm) (h : ∀ (i : Nat) (d : PyData), ds[i]? = some d → ∃ f, (List.replicate mm j)[i]? = some f ∧ Vl B (n - 2) f d) : Vl B n (.vec j) (.tuple [.str "vec", .tuple ds]) := by
  obtain ⟨m, rfl⟩ : ∃ m, n = m + 2 := ⟨n - 2, by omega⟩
  obtain ⟨g1, g2⟩ := vl_parts (fs := List.replicate mm j) (by rw [List.length_replicate]; exact hl) (by rw [List.length_replicate]; exact hm) h
  refine ⟨⟨by simp, gd_cons (gd_str strOk_vec) (gd_cons g1 gd_none)⟩, fun N hN => ?_⟩
  obtain ⟨N', rfl⟩ : ∃ N', N = N' + 1 := ⟨N - 1, by omega⟩
  show on1 _ (tl "vec" (.tuple (.str "vec" :: [.tuple ds]))) = true
  rw [tl_eq]
  have q := g2 N' (by omega)
  rw [← hl, allF_rep] at q
  exact q
end
def spValue (B : Bk) (n : Nat) : Sp := fun vs H Q _ => ∃ dd rr b k kd deep, vs = [.ref dd, b, k, .int deep] ∧ Dr H dd rr ∧ Tp H b (bkD B) ∧ Tp H k (kdD kd) ∧ KG B kd ∧ Cnd B deep n kd ∧
  ∀ v d H', St1 dd H H' → Dr H' dd rr → Tp H' v d → Vl B n kd d → Q v H'
section
variable {P : Program} {w : World} {K : PySem.W.Frag} {mg : Str → Option Value} {base : Heap}
abbrev pVal : List Str := ["_law_d", "_law_book_here", "_law_kind", "_law_deep"]
abbrev nVal : List Str := ["_law_d", "_law_book_here", "_law_kind", "_law_deep", "_law_tag", "_law_many", "_law_one", "_law_k"]
theorem scVal : FnScope nVal pVal (defScope sValue) := ⟨rfl, rfl, rfl, by decide +kernel, rfl, by decide +kernel, by decide +kernel⟩
theorem ok_value {B : Bk} (O : B.Ok) {n k : Nat} (hk1 : 1 ≤ k) {f f1 f2 : Addr} {fd d1 d2 : FuncData} (D : Df K mg "_law_value" sValue pVal f fd) (N : Nm K w mg) (Dt : Df K mg "_law_take" sTake ["_law_d"] f1 d1)
    (Df : Df K mg "_law_finite" sFinite pFin f2 d2) (Gf : FnOk P w K mg base CX0 k f2 d2 pFin (spFin B 34))
    (G : FnOk P w K mg base CX0 k f fd pVal (fun vs H Q E => ∃ m, m < n ∧ spValue B m vs H Q E)) : FnOk P w K mg base CX0 (k + 1) f fd pVal (spValue B n) := by
  have Gt := (ok_take (P := P) (base := base) Dt N).mono hk1
  refine D.F.ok scVal (fun vs H Q E h => ?_) (fun cdv A outer s H vs Q E hr h => ?_)
  · obtain ⟨dd, rr, b, k, kd, deep, rfl, _⟩ := h
    rfl
  obtain ⟨dd, rr, b, kx, kd, deep, rfl, hd, hb, hk, hg, hc, q⟩ := h
  refine ⟨_, pss_cons (ps_if (pt_cmpR op_eqS (pe_ix ix_head (pv 2) pe_int (fun _ _ => rfl)) pe_str (nomark _)) (pss_one (ps_ret (pe_ix ix_list (pe_lst (pa_cons (pe_int) (pa_cons (pe_int) (pa_cons (pe_int) (pa_cons (pe_int) (pa_cons (pe_int) (pa_nil))))))) (pe_op op_mod (cl Dt Gt hr (pa_cons (pv 0) (pa_nil))) (pe_int)) (fun _ _ => rfl)))) pss_nil) (pss_cons (ps_if (pt_cmpR op_eqS (pe_ix ix_head (pv 2) pe_int (fun _ _ => rfl)) pe_str (nomark _)) (pss_one (ps_ret (pe_cmpR op_eqI (pe_op op_mod (cl Dt Gt hr (pa_cons (pv 0) (pa_nil))) (pe_int)) (pe_int) (nomark _)))) pss_nil) (pss_cons (ps_if (pt_cmpR op_eqS (pe_ix ix_head (pv 2) pe_int (fun _ _ => rfl)) pe_str (nomark _)) (pss_one (ps_ret (pe_tup (pa_cons (pe_str) (pa_cons (pe_callTy call_tuple_of (by rfl) N.tup PyProof.Rows.boot_tuple (pa_cons (pe_lc (own := [("_law_one", 6)]) (g := gName 6) (tt := tYes) rfl scVal.nd (pi_tup (pe_ix ix_item (pe_ix ix_item (pv 1) (pe_int) (fun _ _ => rfl)) (pe_ix ix_item (pv 2) (pe_int) (fun _ _ => rfl)) (fun _ _ => rfl))) (blkOk_by (own := [("_law_one", 6)]) (N := nVal) (sc := defScope sValue) (by decide +kernel)) (fun _ _ _ _ _ => pg_name (i := 6) scVal.nd rfl (Or.inl rfl)) (fun _ _ _ _ _ => pts_nil) (fun _ _ _ _ _ => cl D G hr (pa_cons (pv 0) (pa_cons (pv 1) (pa_cons (pv 6) (pa_cons (pe_op op_sub (pv 3) (pe_int)) (pa_nil))))))) (pa_nil))) (pa_nil)))))) pss_nil) (pss_cons (ps_if (pt_cmpR op_eqS (pe_ix ix_head (pv 2) pe_int (fun _ _ => rfl)) pe_str (nomark _)) (pss_cons (ps_set (i := 4) scVal.nd rfl (Or.inl rfl) (pe_int)) (pss_cons (ps_if (pt_cmpR op_gt (pv 3) (pe_int) (nomark _)) (pss_cons (ps_set (i := 4) scVal.nd rfl (Or.inl rfl) (pe_op op_mod (cl Dt Gt hr (pa_cons (pv 0) (pa_nil))) (pe_len1 N (pe_ix ix_item (pe_ix ix_item (pv 1) (pe_int) (fun _ _ => rfl)) (pe_ix ix_item (pv 2) (pe_int) (fun _ _ => rfl)) (fun _ _ => rfl))))) (pss_one (ps_if (pt_cmpR (op_neD hr.units) (pe_lc (own := [("_law_one", 6)]) (g := gName 6) (tt := _) rfl scVal.nd (pi_tup (pe_ix ix_item (pe_ix ix_item (pe_ix ix_item (pv 1) (pe_int) (fun _ _ => rfl)) (pe_ix ix_item (pv 2) (pe_int) (fun _ _ => rfl)) (fun _ _ => rfl)) (pv 4) (fun _ _ => rfl))) (blkOk_by (own := [("_law_one", 6)]) (N := nVal) (sc := defScope sValue) (by decide +kernel)) (fun _ _ _ _ _ => pg_name (i := 6) scVal.nd rfl (Or.inl rfl)) (fun _ _ _ _ _ => pts_one (pt_not (pt_val (cl Df Gf hr (pa_cons (pv 1) (pa_cons (pv 6) (pa_cons (pe_lst (pa_nil)) (pa_nil)))))))) (fun _ _ _ _ _ => pv 6)) (pe_lst (pa_nil)) (nomark _)) (pss_one (ps_set (i := 4) scVal.nd rfl (Or.inl rfl) (pe_int))) pss_nil))) pss_nil) (pss_one (ps_ret (pe_tup (pa_cons (pe_str) (pa_cons (pv 4) (pa_cons (pe_callTy call_tuple_of (by rfl) N.tup PyProof.Rows.boot_tuple (pa_cons (pe_lc (own := [("_law_one", 6)]) (g := gName 6) (tt := tYes) rfl scVal.nd (pi_tup (pe_ix ix_item (pe_ix ix_item (pe_ix ix_item (pv 1) (pe_int) (fun _ _ => rfl)) (pe_ix ix_item (pv 2) (pe_int) (fun _ _ => rfl)) (fun _ _ => rfl)) (pv 4) (fun _ _ => rfl))) (blkOk_by (own := [("_law_one", 6)]) (N := nVal) (sc := defScope sValue) (by decide +kernel)) (fun _ _ _ _ _ => pg_name (i := 6) scVal.nd rfl (Or.inl rfl)) (fun _ _ _ _ _ => pts_nil) (fun _ _ _ _ _ => cl D G hr (pa_cons (pv 0) (pa_cons (pv 1) (pa_cons (pv 6) (pa_cons (pe_op op_sub (pv 3) (pe_int)) (pa_nil))))))) (pa_nil))) (pa_nil))))))))) pss_nil) (pss_cons (ps_if (pt_cmpR op_eqS (pe_ix ix_head (pv 2) pe_int (fun _ _ => rfl)) pe_str (nomark _)) (pss_one (ps_ret (pe_tup (pa_cons (pe_str) (pa_cons (cl D G hr (pa_cons (pv 0) (pa_cons (pv 1) (pa_cons (pe_ix ix_item (pv 2) (pe_int) (fun _ _ => rfl)) (pa_cons (pe_op op_sub (pv 3) (pe_int)) (pa_nil)))))) (pa_nil)))))) pss_nil) (pss_cons (ps_set (i := 5) scVal.nd rfl (Or.inl rfl) (pe_int)) (pss_cons (ps_if (PW.pt (pw_and (pt_cmpR op_gt (pv 3) (pe_int) (nomark _)) (pw_and1 (pt_val (cl Df Gf hr (pa_cons (pv 1) (pa_cons (pe_ix ix_item (pv 2) (pe_int) (fun _ _ => rfl)) (pa_cons (pe_lst (pa_nil)) (pa_nil))))))))) (pss_one (ps_set (i := 5) scVal.nd rfl (Or.inl rfl) (pe_op op_mod (cl Dt Gt hr (pa_cons (pv 0) (pa_nil))) (pe_int)))) pss_nil) (pss_one (ps_ret (pe_tup (pa_cons (pe_str) (pa_cons (pe_callTy call_tuple_of (by rfl) N.tup PyProof.Rows.boot_tuple (pa_cons (pe_lc (own := [("_law_k", 7)]) (g := gName 7) (tt := tYes) rfl scVal.nd (pi_range1 rfl N.range (pa_cons (pv 5) (pa_nil))) (blkOk_by (own := [("_law_k", 7)]) (N := nVal) (sc := defScope sValue) (by decide +kernel)) (fun _ _ _ _ _ => pg_name (i := 7) scVal.nd rfl (Or.inl rfl)) (fun _ _ _ _ _ => pts_nil) (fun _ _ _ _ _ => cl D G hr (pa_cons (pv 0) (pa_cons (pv 1) (pa_cons (pe_ix ix_item (pv 2) (pe_int) (fun _ _ => rfl)) (pa_cons (pe_op op_sub (pv 3) (pe_int)) (pa_nil))))))) (pa_nil))) (pa_nil)))))))))))), ?_⟩
  refine ⟨_, rfl, rfl, kd, hk, _, _, rfl, rfl, _, rfl, ite2 (fun c => ?_) (fun c1 => ?_)⟩
  · obtain rfl := hd_int c
    refine ⟨(by show 5 ≤ sizeLine; decide), fun l nl => ?_⟩
    have sl : Same H (upd H l (.lst [.int 0, .int 1, .int 7, .int 4294967295, .int 255])) := same_new nl _
    have el : (upd H l (.lst [.int 0, .int 1, .int 7, .int 4294967295, .int 255])) l = some (.lst [.int 0, .int 1, .int 7, .int 4294967295, .int 255]) := upd_same
    have dl := hd.same sl
    refine ⟨_, rfl, dd, rr, rfl, dl, fun x H1 hx s1 d1 => ⟨_, _, rfl, rfl, (by show (0 : Int) < 5; decide), ?_⟩⟩
    obtain ⟨v, hv1, hv2⟩ := pick (xs := [V.int 0, V.int 1, V.int 7, V.int 4294967295, V.int 255]) (n := 5) x rfl (by decide)
    refine ⟨l, _, _, v, rfl, rfl, SqL.of (s1 l _ el (dl.nl el)), hv2, ?_⟩
    have ex : ∃ z : Int, v = .int z ∧ 0 ≤ z ∧ z < 4294967296 := by
      simp only [List.mem_cons, List.not_mem_nil, or_false] at hv1
      rcases hv1 with h | h | h | h | h <;> exact ⟨_, h, by decide, by decide⟩
    obtain ⟨z, rfl, z0, z1⟩ := ex
    refine q (.int z) (.int z) H1 ((St1.of sl).trans s1) d1 (.int z) ⟨gd_int, fun N _ => ?_⟩
    rw [isVF_int]
    show (decide (0 ≤ z) && decide (z < 4294967296)) = true
    rw [decide_eq_true z0, decide_eq_true z1]
    rfl
  refine ⟨_, rfl, rfl, kd, hk, _, _, rfl, rfl, _, rfl, ite2 (fun c => ?_) (fun c2 => ?_)⟩
  · obtain rfl := hd_bool c
    refine ⟨_, rfl, dd, rr, rfl, hd, fun x H1 hx s1 d1 => ⟨_, _, rfl, rfl, (by show (0 : Int) < 2; decide), _, _, rfl, rfl, q (.bl _) (.bool _) H1 s1 d1 (.bl _) ⟨gd_bool, fun N _ => ?_⟩⟩⟩
    rw [isVF_bool]
    rfl
  refine ⟨_, rfl, rfl, kd, hk, _, _, rfl, rfl, _, rfl, ite2 (fun c => ?_) (fun c3 => ?_)⟩
  · obtain ⟨j, rfl⟩ := hd_rcd c
    have hn : j < B.rs.length := hg.fits
    obtain ⟨fs, e⟩ : ∃ fs, B.rs[j]? = some fs := ⟨_, List.getElem?_eq_getElem hn⟩
    have hfs := O.rf j fs e
    obtain ⟨h2, cnf⟩ := cnd_rec hc e
    have kgf : ∀ kf ∈ fs, KG B kf := fun kf hkf => (hfs.2 kf hkf).mono (by have := O.r3; omega)
    refine ⟨b, rfl, _, 0, _, hb, rfl, rfl, fun z hz => ⟨_, rfl, _, 1, _, hk, rfl, rfl, fun z2 hz2 => ?_⟩⟩
    cases hz2
    refine ⟨_, j, _, hz, rfl, rs_at e, fun zz hzz => ?_⟩
    obtain ⟨a, xs, rfl, ha, hx, hl⟩ := hzz.open
    rw [List.length_map] at hl
    refine ⟨a, rfl, ⟨xs, SqT.of ha⟩, fun Dl nD => lc_tup (K := K) (a := a) (xs := xs) (PV B (n - 2) dd rr H Dl fs) (pv_0 hd nD) (fun i H' _ p => SqT.of ((hd.ts p.1) _ _ ha)) (fun i x H' hx' p => ?_) (fun H' p => ?_)⟩
    · obtain ⟨d, hdd, hxd⟩ := hx.at' hx'
      obtain ⟨kf, hkf, rfl⟩ : ∃ kf, fs[i]? = some kf ∧ kdD kf = d := by
        rw [List.getElem?_map] at hdd
        exact Option.map_eq_some_iff.mp hdd
      have mem := List.mem_of_getElem? hkf
      exact ⟨rfl, _, rfl, _, rfl, x, rfl, _, rfl, _, _, rfl, rfl, n - 2, by omega, dd, rr, b, x, kf, deep - 1, rfl, p.2.1, Tp.mono (hd.ts p.1) _ _ hb, Tp.mono (hd.ts p.1) _ _ hxd, kgf kf mem, cnf kf mem, fun v d H4 s4 d4 tv hv => pv_step p hd nD hkf (by omega) s4 d4 tv hv⟩
    · obtain ⟨st2, dr2, ys, ds, hD, ty, ly, hy⟩ := p
      refine ⟨Dl, ys, rfl, .inl ⟨SqL.of hD, fun p np => ⟨(by show 2 ≤ sizeLine; decide), fun p2 np2 => ?_⟩⟩⟩
      have sp : Same H' (upd H' p (.tup ys)) := same_new np _
      have sp2 : Same (upd H' p (.tup ys)) (upd (upd H' p (.tup ys)) p2 (.tup [.str "record", .ref p])) := same_new np2 _
      refine q (.ref p2) (.tuple [.str "record", .tuple ds]) _ (((St1.refl dd H).trans st2).trans (St1.of (sp.trans sp2))) (dr2.same (sp.trans sp2)) (.tup upd_same (.cons (.str _) (.cons (.tup (sp2 _ _ upd_same) (TpAll.mono (TSt.of (sp.trans sp2)) _ _ ty)) .nil))) ?_
      exact vl_rec h2 e (by omega) hfs.1 hy
  refine ⟨_, rfl, rfl, kd, hk, _, _, rfl, rfl, _, rfl, ite2 (fun c => ?_) (fun c4 => ?_)⟩
  · obtain ⟨j, rfl⟩ := hd_vrt c
    have hn : j < B.vs.length := hg.fits
    obtain ⟨ts, e⟩ : ∃ ts, B.vs[j]? = some ts := ⟨_, List.getElem?_eq_getElem hn⟩
    have hts := O.vf j ts e
    obtain ⟨p0, e0⟩ : ∃ fs, ts[0]? = some fs := ⟨_, List.getElem?_eq_getElem (show 0 < ts.length from hts.1)⟩
    obtain ⟨h2, cn0⟩ := cnd_var hc e e0
    refine ⟨_, rfl, _, _, rfl, rfl, _, rfl, ite2 (fun cd => ?_) (fun cd => ?_)⟩
    · have hdeep : 0 < deep := by
        have c' : deep > 0 := of_decide_eq_true cd
        exact c'
      have hn28 : 28 + 2 * deep ≤ n := by
        rcases hc with h | h
        · exact h.2.2
        · exact absurd h.1 (by omega)
      refine ⟨_, rfl, dd, rr, rfl, hd, fun x H1 hx s1 d1 => ?_⟩
      have hb1 := Tp.mono (hd.ts s1) _ _ hb
      have hk1 := Tp.mono (hd.ts s1) _ _ hk
      refine ⟨b, rfl, _, 1, _, hb1, rfl, rfl, fun z hz => ⟨_, rfl, _, 1, _, hk1, rfl, rfl, fun z2 hz2 => ?_⟩⟩
      cases hz2
      have hpos : (0 : Int) < (((ts.map ksD).length : Nat) : Int) := by rw [List.length_map]; have := hts.1; omega
      refine ⟨_, j, _, hz, rfl, vs_at e, fun z3 hz3 => ⟨z3, _, rfl, hz3, _, _, rfl, rfl, hpos, ?_⟩⟩
      obtain ⟨t, ht, htl⟩ := mod_nat x (ts.map ksD).length (by omega)
      rw [List.length_map] at htl
      obtain ⟨ps, et⟩ : ∃ ps, ts[t]? = some ps := ⟨_, List.getElem?_eq_getElem htl⟩
      have hps := hts.2.2 ps (List.mem_of_getElem? et)
      refine ⟨b, rfl, _, 1, _, hb1, rfl, rfl, fun z hz => ⟨_, rfl, _, 1, _, hk1, rfl, rfl, fun z2 hz2 => ?_⟩⟩
      cases hz2
      refine ⟨_, j, _, hz, rfl, vs_at e, fun z3 hz3 => ⟨_, rfl, _, t, _, hz3, congrArg V.int ht, ts_at et, fun zz hzz => ?_⟩⟩
      obtain ⟨a, xs, rfl, ha, hx, hl⟩ := hzz.open
      refine ⟨a, rfl, ⟨xs, SqT.of ha⟩, ?_⟩
      have fr := free_le O []
      refine lc_fin (B := B) (K := K) (m := 34) (fun vs H Q E h => h) (i0 := 1) (σ := [some (.ref dd), some b, some kx, some (.int deep), some (.int (x % (((ts.map ksD).length : Nat) : Int))), none, none, none]) (j := 6) (fs := ps) (seen := []) ha hx hb1 (fun kf hkf => (hps.2 kf hkf).mono (by have := O.v3; omega)) (by omega) (by simp) (by simp only [List.length_nil]; omega) (fun kf hkf => by have := (hps.2 kf hkf).dep; omega) (by exact fun _ => rfl) (by exact fun _ => rfl) (by exact fun _ => rfl) (fun x H2 Q s2 qq => ⟨Nat.zero_le _, fun p np => qq p [] _ (same_new np _) upd_same .nil⟩) (fun Dl H2 zs ks s2 hD tz dz ez => ?_)
      refine ⟨Nat.zero_le _, fun p np => ?_⟩
      have sp : Same H2 (upd H2 p (.lst [])) := same_new np _
      refine ⟨.list (ks.map kdD), .list [], .lst (SqL.of (sp _ _ hD)) (TpAll.dp _ _ (TpAll.mono (TSt.of sp) _ _ tz)), .lst (SqL.of upd_same) .nil, shaped_kds dz, shaped_nil, _, rfl, ?_⟩
      rw [eqv_nil, show (ks.map kdD).isEmpty = ks.isEmpty by cases ks <;> rfl, ez]
      have s3 := s2.trans sp
      have st3 : St1 dd H (upd H2 p (.lst [])) := s1.trans (St1.of s3)
      have dr3 := d1.same s3
      have hb3 := Tp.mono (TSt.of s3) _ _ hb1
      have hk3 := Tp.mono (TSt.of s3) _ _ hk1
      refine ite2 (fun cf => ?_) (fun cf => ?_)
      · have cnf := cn0
        have et0 := et
        clear hps et hzz
        rename_i _
        refine ⟨_, rfl, b, rfl, _, 1, _, hb3, rfl, rfl, fun z hz => ⟨_, rfl, _, 1, _, hk3, rfl, rfl, fun z2 hz2 => ?_⟩⟩
        cases hz2
        refine ⟨_, j, _, hz, rfl, vs_at e, fun z3 hz3 => ⟨_, rfl, _, 0, _, hz3, rfl, ts_at e0, fun zz hzz => ?_⟩⟩
        have hps := hts.2.2 p0 (List.mem_of_getElem? e0)
        have kgf : ∀ kf ∈ p0, KG B kf := fun kf hkf => (hps.2 kf hkf).mono (by have := O.v3; omega)
        obtain ⟨a, xs, rfl, ha, hx, hl⟩ := hzz.open
        rw [List.length_map] at hl
        refine ⟨a, rfl, ⟨xs, SqT.of ha⟩, fun Dl nD => lc_tup (K := K) (a := a) (xs := xs) (PV B (n - 2) dd rr (upd H2 p (.lst [])) Dl p0) (pv_0 dr3 nD) (fun i H' _ p => SqT.of ((dr3.ts p.1) _ _ ha)) (fun i x H' hx' p => ?_) (fun H' p => ?_)⟩
        · obtain ⟨d, hdd, hxd⟩ := hx.at' hx'
          obtain ⟨kf, hkf, rfl⟩ : ∃ kf, p0[i]? = some kf ∧ kdD kf = d := by
            rw [List.getElem?_map] at hdd
            exact Option.map_eq_some_iff.mp hdd
          have mem := List.mem_of_getElem? hkf
          exact ⟨rfl, _, rfl, _, rfl, x, rfl, _, rfl, _, _, rfl, rfl, n - 2, by omega, dd, rr, b, x, kf, deep - 1, rfl, p.2.1, Tp.mono (dr3.ts p.1) _ _ hb3, Tp.mono (dr3.ts p.1) _ _ hxd, kgf kf mem, cnf kf mem, fun v d H4 s4 d4 tv hv => pv_step p dr3 nD hkf (by omega) s4 d4 tv hv⟩
        · obtain ⟨st2, dr2, ys, ds, hD, ty, ly, hy⟩ := p
          refine ⟨Dl, ys, rfl, .inl ⟨SqL.of hD, fun p np => ⟨(by show 3 ≤ sizeLine; decide), fun p2 np2 => ?_⟩⟩⟩
          have sp : Same H' (upd H' p (.tup ys)) := same_new np _
          have sp2 : Same (upd H' p (.tup ys)) (upd (upd H' p (.tup ys)) p2 (.tup [.str "variant", .int 0, .ref p])) := same_new np2 _
          refine q (.ref p2) (.tuple [.str "variant", .int ((0 : Nat) : Int), .tuple ds]) _ ((st3.trans st2).trans (St1.of (sp.trans sp2))) (dr2.same (sp.trans sp2)) (.tup upd_same (.cons (.str _) (.cons (.int _) (.cons (.tup (sp2 _ _ upd_same) (TpAll.mono (TSt.of (sp.trans sp2)) _ _ ty)) .nil)))) ?_
          exact vl_var h2 e e0 (by omega) (by omega) hy
      · have hall : ps.all (fun f => fin B 34 [] f) = true := by simpa using cf
        have cnf : ∀ f ∈ ps, Cnd B (deep - 1) (n - 2) f := fun f hf => cnd_next hdeep hn28 (fin_top O ((hps.2 f hf).mono (by have := O.v3; omega)) (List.all_eq_true.mp hall f hf))
        clear hzz
        refine ⟨_, rfl, b, rfl, _, 1, _, hb3, rfl, rfl, fun z hz => ⟨_, rfl, _, 1, _, hk3, rfl, rfl, fun z2 hz2 => ?_⟩⟩
        cases hz2
        refine ⟨_, j, _, hz, rfl, vs_at e, fun z3 hz3 => ⟨_, rfl, _, t, _, hz3, congrArg V.int ht, ts_at et, fun zz hzz => ?_⟩⟩
        have hps := hts.2.2 ps (List.mem_of_getElem? et)
        have kgf : ∀ kf ∈ ps, KG B kf := fun kf hkf => (hps.2 kf hkf).mono (by have := O.v3; omega)
        obtain ⟨a, xs, rfl, ha, hx, hl⟩ := hzz.open
        rw [List.length_map] at hl
        refine ⟨a, rfl, ⟨xs, SqT.of ha⟩, fun Dl nD => lc_tup (K := K) (a := a) (xs := xs) (PV B (n - 2) dd rr (upd H2 p (.lst [])) Dl ps) (pv_0 dr3 nD) (fun i H' _ p => SqT.of ((dr3.ts p.1) _ _ ha)) (fun i x H' hx' p => ?_) (fun H' p => ?_)⟩
        · obtain ⟨d, hdd, hxd⟩ := hx.at' hx'
          obtain ⟨kf, hkf, rfl⟩ : ∃ kf, ps[i]? = some kf ∧ kdD kf = d := by
            rw [List.getElem?_map] at hdd
            exact Option.map_eq_some_iff.mp hdd
          have mem := List.mem_of_getElem? hkf
          exact ⟨rfl, _, rfl, _, rfl, x, rfl, _, rfl, _, _, rfl, rfl, n - 2, by omega, dd, rr, b, x, kf, deep - 1, rfl, p.2.1, Tp.mono (dr3.ts p.1) _ _ hb3, Tp.mono (dr3.ts p.1) _ _ hxd, kgf kf mem, cnf kf mem, fun v d H4 s4 d4 tv hv => pv_step p dr3 nD hkf (by omega) s4 d4 tv hv⟩
        · obtain ⟨st2, dr2, ys, ds, hD, ty, ly, hy⟩ := p
          refine ⟨Dl, ys, rfl, .inl ⟨SqL.of hD, fun p np => ⟨(by show 3 ≤ sizeLine; decide), fun p2 np2 => ?_⟩⟩⟩
          have sp : Same H' (upd H' p (.tup ys)) := same_new np _
          have sp2 : Same (upd H' p (.tup ys)) (upd (upd H' p (.tup ys)) p2 (.tup [.str "variant", .int (x % (((ts.map ksD).length : Nat) : Int)), .ref p])) := same_new np2 _
          refine q (.ref p2) (.tuple [.str "variant", .int ((t : Nat) : Int), .tuple ds]) _ ((st3.trans st2).trans (St1.of (sp.trans sp2))) (dr2.same (sp.trans sp2)) (.tup upd_same (.cons (.str _) (.cons (by show Tp _ (.int (x % (((ts.map ksD).length : Nat) : Int))) _; rw [ht]; exact .int _) (.cons (.tup (sp2 _ _ upd_same) (TpAll.mono (TSt.of (sp.trans sp2)) _ _ ty)) .nil)))) ?_
          exact vl_var h2 e et (by omega) (by omega) hy
    · have cnf := cn0
      refine ⟨_, rfl, b, rfl, _, 1, _, hb, rfl, rfl, fun z hz => ⟨_, rfl, _, 1, _, hk, rfl, rfl, fun z2 hz2 => ?_⟩⟩
      cases hz2
      refine ⟨_, j, _, hz, rfl, vs_at e, fun z3 hz3 => ⟨_, rfl, _, 0, _, hz3, rfl, ts_at e0, fun zz hzz => ?_⟩⟩
      have hps := hts.2.2 p0 (List.mem_of_getElem? e0)
      have kgf : ∀ kf ∈ p0, KG B kf := fun kf hkf => (hps.2 kf hkf).mono (by have := O.v3; omega)
      obtain ⟨a, xs, rfl, ha, hx, hl⟩ := hzz.open
      rw [List.length_map] at hl
      refine ⟨a, rfl, ⟨xs, SqT.of ha⟩, fun Dl nD => lc_tup (K := K) (a := a) (xs := xs) (PV B (n - 2) dd rr H Dl p0) (pv_0 hd nD) (fun i H' _ p => SqT.of ((hd.ts p.1) _ _ ha)) (fun i x H' hx' p => ?_) (fun H' p => ?_)⟩
      · obtain ⟨d, hdd, hxd⟩ := hx.at' hx'
        obtain ⟨kf, hkf, rfl⟩ : ∃ kf, p0[i]? = some kf ∧ kdD kf = d := by
          rw [List.getElem?_map] at hdd
          exact Option.map_eq_some_iff.mp hdd
        have mem := List.mem_of_getElem? hkf
        exact ⟨rfl, _, rfl, _, rfl, x, rfl, _, rfl, _, _, rfl, rfl, n - 2, by omega, dd, rr, b, x, kf, deep - 1, rfl, p.2.1, Tp.mono (hd.ts p.1) _ _ hb, Tp.mono (hd.ts p.1) _ _ hxd, kgf kf mem, cnf kf mem, fun v d H4 s4 d4 tv hv => pv_step p hd nD hkf (by omega) s4 d4 tv hv⟩
      · obtain ⟨st2, dr2, ys, ds, hD, ty, ly, hy⟩ := p
        refine ⟨Dl, ys, rfl, .inl ⟨SqL.of hD, fun p np => ⟨(by show 3 ≤ sizeLine; decide), fun p2 np2 => ?_⟩⟩⟩
        have sp : Same H' (upd H' p (.tup ys)) := same_new np _
        have sp2 : Same (upd H' p (.tup ys)) (upd (upd H' p (.tup ys)) p2 (.tup [.str "variant", .int 0, .ref p])) := same_new np2 _
        refine q (.ref p2) (.tuple [.str "variant", .int ((0 : Nat) : Int), .tuple ds]) _ (((St1.refl dd H).trans st2).trans (St1.of (sp.trans sp2))) (dr2.same (sp.trans sp2)) (.tup upd_same (.cons (.str _) (.cons (.int _) (.cons (.tup (sp2 _ _ upd_same) (TpAll.mono (TSt.of (sp.trans sp2)) _ _ ty)) .nil)))) ?_
        exact vl_var h2 e e0 (by omega) (by omega) hy
  refine ⟨_, rfl, rfl, kd, hk, _, _, rfl, rfl, _, rfl, ite2 (fun c => ?_) (fun c5 => ?_)⟩
  · obtain ⟨j, rfl⟩ := hd_box c
    obtain ⟨h1, cn⟩ := cnd_box hc
    refine ⟨_, rfl, _, rfl, _, rfl, _, 1, _, hk, rfl, rfl, fun z hz => ⟨_, rfl, _, _, rfl, rfl, n - 1, by omega, dd, rr, b, z, j, deep - 1, rfl, hd, hb, hz, KG.box O hg, cn, fun v d H1 s1 d1 tv hv => ⟨(by show 2 ≤ sizeLine; decide), fun p np => ?_⟩⟩⟩
    have sp : Same H1 (upd H1 p (.tup [.str "box", v])) := same_new np _
    exact q (.ref p) (.tuple [.str "box", d]) _ (s1.trans (St1.of sp)) (d1.same sp) (.tup upd_same (.cons (.str _) (.cons (Tp.mono (TSt.of sp) _ _ tv) .nil))) (vl_box h1 hv)
  obtain ⟨j, rfl⟩ : ∃ j, kd = .vec j := by
    cases kd with
    | vec j => exact ⟨j, rfl⟩
    | int => exact absurd (decide_eq_true rfl) c1
    | bool => exact absurd (decide_eq_true rfl) c2
    | rcd j => exact absurd (decide_eq_true rfl) c3
    | vrt j => exact absurd (decide_eq_true rfl) c4
    | box j => exact absurd (decide_eq_true rfl) c5
    | rf j => exact hg.fits.elim
    | mt j => exact hg.fits.elim
  have h2 := cnd_vec hc
  refine ⟨_, rfl, _, _, rfl, rfl, _, rfl, ite2 (fun cd => ?_) (fun cd => ?_)⟩
  · have hdeep : 0 < deep := by
      have c' : deep > 0 := of_decide_eq_true cd
      exact c'
    have hn28 : 28 + 2 * deep ≤ n := by
      rcases hc with h | h
      · exact h.2.2
      · exact absurd h.1 (by omega)
    have fr := free_le O []
    refine ⟨b, rfl, _, rfl, _, 1, _, hk, rfl, rfl, fun z hz => ⟨Nat.zero_le _, fun p np => ?_⟩⟩
    have sp : Same H (upd H p (.lst [])) := same_new np _
    refine ⟨b, z, j, p, [], [], rfl, Tp.mono (TSt.of sp) _ _ hb, Tp.mono (TSt.of sp) _ _ hz, KG.vec O hg, upd_same, .nil, by simp, by simp only [List.length_nil]; omega, by have := (KG.vec O hg).dep; omega, fun H2 s2 => ⟨_, rfl, ite2 (fun cf => ?_) (fun cf => ?_)⟩⟩
    · have s3 := sp.trans s2
      have dr2 := hd.same s3
      refine ⟨_, rfl, dd, rr, rfl, dr2, fun x H3 hx s5 d5 => ⟨_, _, rfl, rfl, (by show (0 : Int) < 3; decide), ?_⟩⟩
      obtain ⟨mm, hm, hm3⟩ := mod_nat x 3 (by decide)
      have hm' : x % 3 = (mm : Int) := hm
      have st5 : St1 dd H H3 := (St1.of s3).trans s5
      have hb5 := Tp.mono (hd.ts st5) _ _ hb
      have hk5 := Tp.mono (hd.ts st5) _ _ hk
      have cn := cnd_next hdeep hn28 (fin_top O (KG.vec O hg) cf)
      refine ⟨_, rfl, _, rfl, (by show -(2 ^ 62) ≤ x % 3; omega), (by show x % 3 < 2 ^ 62; omega), fun Dl nD => ?_⟩
      refine lc_range0 (PV B (n - 2) dd rr H3 Dl (List.replicate mm j)) (pv_0 d5 nD) (fun i H' hi p => ?_) (fun H' p => ?_)
      · have hi' : i < mm := (by have h : i < (x % 3).toNat := hi; omega)
        refine ⟨rfl, _, rfl, _, rfl, _, rfl, _, 1, _, Tp.mono (d5.ts p.1) _ _ hk5, rfl, rfl, fun z hz => ?_⟩
        exact ⟨_, rfl, _, _, rfl, rfl, n - 2, by omega, dd, rr, b, z, j, deep - 1, rfl, p.2.1, Tp.mono (d5.ts p.1) _ _ hb5, hz, KG.vec O hg, (fun _ => cn) hi', fun v d H4 s4 d4 tv hv => pv_step p d5 nD (by rw [List.getElem?_replicate, if_pos hi']) (by rw [List.length_replicate]; omega) s4 d4 tv hv⟩
      · obtain ⟨st2, dr2, ys, ds, hD, ty, ly, hy⟩ := p
        refine ⟨Dl, ys, rfl, .inl ⟨SqL.of hD, fun p np => ⟨(by show 2 ≤ sizeLine; decide), fun p2 np2 => ?_⟩⟩⟩
        have sp : Same H' (upd H' p (.tup ys)) := same_new np _
        have sp2 : Same (upd H' p (.tup ys)) (upd (upd H' p (.tup ys)) p2 (.tup [.str "vec", .ref p])) := same_new np2 _
        refine q (.ref p2) (.tuple [.str "vec", .tuple ds]) _ ((st5.trans st2).trans (St1.of (sp.trans sp2))) (dr2.same (sp.trans sp2)) (.tup upd_same (.cons (.str _) (.cons (.tup (sp2 _ _ upd_same) (TpAll.mono (TSt.of (sp.trans sp2)) _ _ ty)) .nil))) ?_
        have ly' : ds.length = mm := (by have h : ds.length = (x % 3).toNat := ly; omega)
        exact vl_vec (mm := mm) h2 (by omega) ly' hy
    · have s3 := sp.trans s2
      have dr2 := hd.same s3
      have hb5 := Tp.mono (TSt.of s3) _ _ hb
      have hk5 := Tp.mono (TSt.of s3) _ _ hk
      refine ⟨_, rfl, _, rfl, (by decide), (by decide), fun Dl nD => ?_⟩
      refine lc_range0 (PV B (n - 2) dd rr H2 Dl (List.replicate 0 j)) (pv_0 dr2 nD) (fun i H' hi p => ?_) (fun H' p => ?_)
      · have hi' : i < 0 := hi
        refine ⟨rfl, _, rfl, _, rfl, _, rfl, _, 1, _, Tp.mono (dr2.ts p.1) _ _ hk5, rfl, rfl, fun z hz => ?_⟩
        exact ⟨_, rfl, _, _, rfl, rfl, n - 2, by omega, dd, rr, b, z, j, deep - 1, rfl, p.2.1, Tp.mono (dr2.ts p.1) _ _ hb5, hz, KG.vec O hg, (fun h => absurd h (Nat.not_lt_zero _)) hi', fun v d H4 s4 d4 tv hv => pv_step p dr2 nD (by rw [List.getElem?_replicate, if_pos hi']) (by rw [List.length_replicate]; omega) s4 d4 tv hv⟩
      · obtain ⟨st2, dr2, ys, ds, hD, ty, ly, hy⟩ := p
        refine ⟨Dl, ys, rfl, .inl ⟨SqL.of hD, fun p np => ⟨(by show 2 ≤ sizeLine; decide), fun p2 np2 => ?_⟩⟩⟩
        have sp : Same H' (upd H' p (.tup ys)) := same_new np _
        have sp2 : Same (upd H' p (.tup ys)) (upd (upd H' p (.tup ys)) p2 (.tup [.str "vec", .ref p])) := same_new np2 _
        refine q (.ref p2) (.tuple [.str "vec", .tuple ds]) _ (((St1.of s3).trans st2).trans (St1.of (sp.trans sp2))) (dr2.same (sp.trans sp2)) (.tup upd_same (.cons (.str _) (.cons (.tup (sp2 _ _ upd_same) (TpAll.mono (TSt.of (sp.trans sp2)) _ _ ty)) .nil))) ?_
        have ly' : ds.length = 0 := ly
        exact vl_vec (mm := 0) h2 (by omega) ly' hy
  · skip
    refine ⟨_, rfl, _, rfl, (by decide), (by decide), fun Dl nD => ?_⟩
    refine lc_range0 (PV B (n - 2) dd rr H Dl (List.replicate 0 j)) (pv_0 hd nD) (fun i H' hi p => ?_) (fun H' p => ?_)
    · have hi' : i < 0 := hi
      refine ⟨rfl, _, rfl, _, rfl, _, rfl, _, 1, _, Tp.mono (hd.ts p.1) _ _ hk, rfl, rfl, fun z hz => ?_⟩
      exact ⟨_, rfl, _, _, rfl, rfl, n - 2, by omega, dd, rr, b, z, j, deep - 1, rfl, p.2.1, Tp.mono (hd.ts p.1) _ _ hb, hz, KG.vec O hg, (fun h => absurd h (Nat.not_lt_zero _)) hi', fun v d H4 s4 d4 tv hv => pv_step p hd nD (by rw [List.getElem?_replicate, if_pos hi']) (by rw [List.length_replicate]; omega) s4 d4 tv hv⟩
    · obtain ⟨st2, dr2, ys, ds, hD, ty, ly, hy⟩ := p
      refine ⟨Dl, ys, rfl, .inl ⟨SqL.of hD, fun p np => ⟨(by show 2 ≤ sizeLine; decide), fun p2 np2 => ?_⟩⟩⟩
      have sp : Same H' (upd H' p (.tup ys)) := same_new np _
      have sp2 : Same (upd H' p (.tup ys)) (upd (upd H' p (.tup ys)) p2 (.tup [.str "vec", .ref p])) := same_new np2 _
      refine q (.ref p2) (.tuple [.str "vec", .tuple ds]) _ (((St1.refl dd H).trans st2).trans (St1.of (sp.trans sp2))) (dr2.same (sp.trans sp2)) (.tup upd_same (.cons (.str _) (.cons (.tup (sp2 _ _ upd_same) (TpAll.mono (TSt.of (sp.trans sp2)) _ _ ty)) .nil))) ?_
      have ly' : ds.length = 0 := ly
      exact vl_vec (mm := 0) h2 (by omega) ly' hy
theorem all_value {B : Bk} (O : B.Ok) {f f1 f2 : Addr} {fd d1 d2 : FuncData} (D : Df K mg "_law_value" sValue pVal f fd) (N : Nm K w mg) (Dt : My.Df K mg "_law_take" sTake ["_law_d"] f1 d1) (Df : My.Df K mg "_law_finite" sFinite pFin f2 d2) : ∀ n, FnOk P w K mg base CX0 (n + 36) f fd pVal (spValue B n) := fun n =>
  Nat.strongRecOn n fun n ih => ok_value O (k := n + 35) (by omega) D N Dt Df ((all_fin O Df N 34).mono (by omega)) (FnOk.below fun m hm => (ih m hm).mono (by omega))
end
end My
set_option maxRecDepth 100000
set_option maxHeartbeats 4000000
namespace My
open PySem L2
/-! ### tuple + tuple -/
def rCatP : R2 := fun x y H Q => ∃ ds es, Tp H x (.tuple ds) ∧ Tp H y (.tuple es) ∧ ds.length ≤ 1000 ∧ es.length ≤ 1000 ∧ ∀ z H', Same H H' → Tp H' z (.tuple (ds ++ es)) → Q z H'
theorem op_catP {X : Cx} : OpR X (binaryOp .Add) rCatP := by
  intro pins s σ H x y v u Q I rx ry h
  obtain ⟨ds, es, hx, hy, h1, h2, q⟩ := h
  obtain ⟨a, xs, rfl, ha, hxs, hl⟩ := id hx.open
  obtain ⟨b, ys, rfl, hb, hys, hl2⟩ := id hy.open
  refine op_catA pins s σ H _ _ v u Q I rx ry ⟨a, b, xs, ys, rfl, rfl, SqT.of ha, SqT.of hb, Nat.le_trans (show xs.length + ys.length ≤ 2000 by omega) (by decide), fun e => ?_, fun _ e => ?_, fun _ _ p np => ?_⟩
  · have ed : ds = [] := List.eq_nil_of_length_eq_zero (by rw [← hl, e]; rfl)
    refine q _ H (Same.refl H) ?_
    rw [ed]
    exact hy
  · have ed : es = [] := List.eq_nil_of_length_eq_zero (by rw [← hl2, e]; rfl)
    refine q _ H (Same.refl H) ?_
    rw [ed, List.append_nil]
    exact hx
  · have sp : Same H (upd H p (.tup (xs ++ ys))) := same_new np _
    exact q _ _ sp (.tup upd_same ((TpAll.mono (TSt.of sp) _ _ hxs).append (TpAll.mono (TSt.of sp) _ _ hys)))
theorem cutD_mem {ds : List PyData} {lo hi : Option Int} {d : PyData} (h : d ∈ cutD ds lo hi) : d ∈ ds := List.mem_of_mem_drop (List.mem_of_mem_take h)
theorem cutD_len (ds : List PyData) (lo hi : Option Int) : (cutD ds lo hi).length ≤ ds.length := by
  unfold cutD
  rw [List.length_take, List.length_drop]
  omega
theorem things_gd : ∀ d ∈ ([.none, .bool true, .bool false, .int (-1), .int 0, .int 5, .int 4294967296, .str "box", .tuple [], .tuple [.str "box", .int 1], .tuple [.str "vec", .tuple []], .tuple [.str "record", .tuple []], .tuple [.str "variant", .int 0, .tuple []], .tuple [.str "variant", .int 9, .tuple []]] : List PyData), gd 3 2 d := by
  have u : gd 3 1 (.tuple []) := ⟨by simp, gd_none⟩
  have u2 : gd 3 2 (.tuple []) := ⟨by simp, gd_none⟩
  refine gd_cons trivial (gd_cons trivial (gd_cons trivial (gd_cons trivial (gd_cons trivial (gd_cons trivial (gd_cons trivial (gd_cons (gd_str strOk_box) (gd_cons u2 ?_))))))))
  refine gd_cons ⟨by simp, gd_cons (gd_str strOk_box) (gd_cons gd_int gd_none)⟩ ?_
  refine gd_cons ⟨by simp, gd_cons (gd_str strOk_vec) (gd_cons u gd_none)⟩ ?_
  refine gd_cons ⟨by simp, gd_cons (gd_str strOk_rec) (gd_cons u gd_none)⟩ ?_
  refine gd_cons ⟨by simp, gd_cons (gd_str strOk_var) (gd_cons gd_int (gd_cons u gd_none))⟩ ?_
  exact gd_cons ⟨by simp, gd_cons (gd_str strOk_var) (gd_cons gd_int (gd_cons u gd_none))⟩ gd_none
def spSpoilt (s : Nat) : Sp := fun vs H Q _ => ∃ dd rr v d steps W n, vs = [.ref dd, v, .int steps] ∧ Dr H dd rr ∧ Tp H v d ∧ gd W n d ∧ steps ≤ ((s : Nat) : Int) ∧ s + 2 ≤ n ∧ n ≤ 64 ∧ 1 ≤ W ∧ W ≤ 50 ∧
  ∀ v' d' H', St1 dd H H' → Dr H' dd rr → Tp H' v' d' → gd (2 * W + 1) n d' → Q v' H'
section
variable {P : Program} {w : World} {K : PySem.W.Frag} {mg : Str → Option Value} {base : Heap}
abbrev pSp : List Str := ["_law_d", "_law_thing", "_law_steps"]
abbrev nSp : List Str := ["_law_d", "_law_thing", "_law_steps", "_law_things", "_law_at"]
theorem scSp : FnScope nSp pSp (defScope sSpoilt) := ⟨rfl, rfl, rfl, by decide +kernel, rfl, by decide +kernel, by decide +kernel⟩
theorem ok_spoilt {sn k : Nat} (hk1 : 1 ≤ k) {f f1 : Addr} {fd d1 : FuncData} (D : Df K mg "_law_spoilt" sSpoilt pSp f fd) (N : Nm K w mg) (Dt : Df K mg "_law_take" sTake ["_law_d"] f1 d1)
    (G : FnOk P w K mg base CX0 k f fd pSp (fun vs H Q E => ∃ m, m < sn ∧ spSpoilt m vs H Q E)) : FnOk P w K mg base CX0 (k + 1) f fd pSp (spSpoilt sn) := by
  have Gt := (ok_take (P := P) (base := base) Dt N).mono hk1
  refine D.F.ok scSp (fun vs H Q E h => ?_) (fun cdv A outer s H vs Q E hr h => ?_)
  · obtain ⟨dd, rr, v, d, steps, W, n, rfl, _⟩ := h
    rfl
  obtain ⟨dd, rr, v, d, steps, W, n, rfl, hd, hv, hg, hst, hn, hn64, hW1, hW, q⟩ := h
  have hu := hu_of hr
  refine ⟨_, pss_cons (ps_set (i := 3) scSp.nd rfl (Or.inl rfl) (pe_lst (pa_cons (pe_non) (pa_cons (pe_bl) (pa_cons (pe_bl) (pa_cons (pe_un un_neg pe_int) (pa_cons (pe_int) (pa_cons (pe_int) (pa_cons (pe_int) (pa_cons (pe_str) (pa_cons (pe_tup (pa_nil)) (pa_cons (pe_tup (pa_cons (pe_str) (pa_cons (pe_int) (pa_nil)))) (pa_cons (pe_tup (pa_cons (pe_str) (pa_cons (pe_tup (pa_nil)) (pa_nil)))) (pa_cons (pe_tup (pa_cons (pe_str) (pa_cons (pe_tup (pa_nil)) (pa_nil)))) (pa_cons (pe_tup (pa_cons (pe_str) (pa_cons (pe_int) (pa_cons (pe_tup (pa_nil)) (pa_nil))))) (pa_cons (pe_tup (pa_cons (pe_str) (pa_cons (pe_int) (pa_cons (pe_tup (pa_nil)) (pa_nil))))) (pa_nil))))))))))))))))) (pss_cons (ps_if (PW.pt (pw_or (pt_not (pt_val (pe_isTup N (pv 1)))) (pw_or (pt_cmpR (op_eqD hr.units) (pv 1) (pe_tup pa_nil) (nomark _)) (pw_or1 (pt_cmpR op_le (pv 2) (pe_int) (nomark _)))))) (pss_one (ps_ret (pe_ix ix_list (pv 3) (pe_op op_mod (cl Dt Gt hr (pa_cons (pv 0) (pa_nil))) (pe_callB call_len_seq (by rfl) N.len PySem.boot_len (pa_cons (pv 3) (pa_nil)))) (fun _ _ => rfl)))) pss_nil) (pss_cons (ps_set (i := 4) scSp.nd rfl (Or.inl rfl) (pe_op op_mod (cl Dt Gt hr (pa_cons (pv 0) (pa_nil))) (pe_op op_add (pe_len1 N (pv 1)) (pe_int)))) (pss_cons (ps_if (pt_cmpR op_eqI (pv 4) (pe_len1 N (pv 1)) (nomark _)) (pss_one (ps_ret (pe_ix ix_list (pe_lst (pa_cons (pe_slice sl_tp (pv 1) po_none (po_some (pe_un un_neg pe_int))) (pa_cons (pe_op op_catP (pv 1) (pe_slice sl_tp (pv 1) (po_some (pe_un un_neg pe_int)) po_none)) (pa_nil)))) (pe_op op_mod (cl Dt Gt hr (pa_cons (pv 0) (pa_nil))) (pe_int)) (fun _ _ => rfl)))) pss_nil) (pss_one (ps_ret (pe_op op_catP (pe_op op_catP (pe_slice sl_tp (pv 1) po_none (po_some (pv 4))) (pe_tup (pa_cons (cl D G hr (pa_cons (pv 0) (pa_cons (pe_ix ix_item (pv 1) (pv 4) (fun _ _ => rfl)) (pa_cons (pe_op op_sub (pv 2) (pe_int)) (pa_nil))))) (pa_nil)))) (pe_slice sl_tp (pv 1) (po_some (pe_op op_add (pv 4) (pe_int))) po_none))))))), ?_⟩
  have sc : Same H H := Same.refl H
  refine ⟨1, rfl, ?_⟩
  refine ⟨Nat.zero_le _, fun p8 np8 => ?_⟩
  have sp8 : Same H (upd H p8 (.tup [])) := same_new np8 _
  have tp8 : Tp (upd H p8 (.tup [])) (.ref p8) (.tuple []) := .tup upd_same (.nil)
  replace sc := sc.trans sp8
  clear sp8
  generalize upd H p8 (.tup []) = Hc at *
  refine ⟨(by show 2 ≤ sizeLine; decide), fun p9 np9 => ?_⟩
  have sp9 : Same Hc (upd Hc p9 (.tup [.str "box", .int 1])) := same_new np9 _
  have tp9 : Tp (upd Hc p9 (.tup [.str "box", .int 1])) (.ref p9) (.tuple [.str "box", .int 1]) := .tup upd_same (.cons (.str _) (.cons (.int _) (.nil)))
  replace tp8 := Tp.mono (TSt.of sp9) _ _ tp8
  replace sc := sc.trans sp9
  clear sp9
  generalize upd Hc p9 (.tup [.str "box", .int 1]) = Hc at *
  refine ⟨Nat.zero_le _, fun e10 ne10 => ?_⟩
  have se10 : Same Hc (upd Hc e10 (.tup [])) := same_new ne10 _
  have te10 : Tp (upd Hc e10 (.tup [])) (.ref e10) (.tuple []) := .tup upd_same (.nil)
  replace tp8 := Tp.mono (TSt.of se10) _ _ tp8
  replace tp9 := Tp.mono (TSt.of se10) _ _ tp9
  replace sc := sc.trans se10
  clear se10
  generalize upd Hc e10 (.tup []) = Hc at *
  refine ⟨(by show 2 ≤ sizeLine; decide), fun p10 np10 => ?_⟩
  have sp10 : Same Hc (upd Hc p10 (.tup [.str "vec", .ref e10])) := same_new np10 _
  have tp10 : Tp (upd Hc p10 (.tup [.str "vec", .ref e10])) (.ref p10) (.tuple [.str "vec", .tuple []]) := .tup upd_same (.cons (.str _) (.cons (Tp.mono (TSt.of sp10) _ _ te10) (.nil)))
  replace tp8 := Tp.mono (TSt.of sp10) _ _ tp8
  replace tp9 := Tp.mono (TSt.of sp10) _ _ tp9
  replace te10 := Tp.mono (TSt.of sp10) _ _ te10
  replace sc := sc.trans sp10
  clear sp10
  generalize upd Hc p10 (.tup [.str "vec", .ref e10]) = Hc at *
  refine ⟨Nat.zero_le _, fun e11 ne11 => ?_⟩
  have se11 : Same Hc (upd Hc e11 (.tup [])) := same_new ne11 _
  have te11 : Tp (upd Hc e11 (.tup [])) (.ref e11) (.tuple []) := .tup upd_same (.nil)
  replace tp8 := Tp.mono (TSt.of se11) _ _ tp8
  replace tp9 := Tp.mono (TSt.of se11) _ _ tp9
  replace te10 := Tp.mono (TSt.of se11) _ _ te10
  replace tp10 := Tp.mono (TSt.of se11) _ _ tp10
  replace sc := sc.trans se11
  clear se11
  generalize upd Hc e11 (.tup []) = Hc at *
  refine ⟨(by show 2 ≤ sizeLine; decide), fun p11 np11 => ?_⟩
  have sp11 : Same Hc (upd Hc p11 (.tup [.str "record", .ref e11])) := same_new np11 _
  have tp11 : Tp (upd Hc p11 (.tup [.str "record", .ref e11])) (.ref p11) (.tuple [.str "record", .tuple []]) := .tup upd_same (.cons (.str _) (.cons (Tp.mono (TSt.of sp11) _ _ te11) (.nil)))
  replace tp8 := Tp.mono (TSt.of sp11) _ _ tp8
  replace tp9 := Tp.mono (TSt.of sp11) _ _ tp9
  replace te10 := Tp.mono (TSt.of sp11) _ _ te10
  replace tp10 := Tp.mono (TSt.of sp11) _ _ tp10
  replace te11 := Tp.mono (TSt.of sp11) _ _ te11
  replace sc := sc.trans sp11
  clear sp11
  generalize upd Hc p11 (.tup [.str "record", .ref e11]) = Hc at *
  refine ⟨Nat.zero_le _, fun e12 ne12 => ?_⟩
  have se12 : Same Hc (upd Hc e12 (.tup [])) := same_new ne12 _
  have te12 : Tp (upd Hc e12 (.tup [])) (.ref e12) (.tuple []) := .tup upd_same (.nil)
  replace tp8 := Tp.mono (TSt.of se12) _ _ tp8
  replace tp9 := Tp.mono (TSt.of se12) _ _ tp9
  replace te10 := Tp.mono (TSt.of se12) _ _ te10
  replace tp10 := Tp.mono (TSt.of se12) _ _ tp10
  replace te11 := Tp.mono (TSt.of se12) _ _ te11
  replace tp11 := Tp.mono (TSt.of se12) _ _ tp11
  replace sc := sc.trans se12
  clear se12
  generalize upd Hc e12 (.tup []) = Hc at *
  refine ⟨(by show 3 ≤ sizeLine; decide), fun p12 np12 => ?_⟩
  have sp12 : Same Hc (upd Hc p12 (.tup [.str "variant", .int 0, .ref e12])) := same_new np12 _
  have tp12 : Tp (upd Hc p12 (.tup [.str "variant", .int 0, .ref e12])) (.ref p12) (.tuple [.str "variant", .int 0, .tuple []]) := .tup upd_same (.cons (.str _) (.cons (.int _) (.cons (Tp.mono (TSt.of sp12) _ _ te12) (.nil))))
  replace tp8 := Tp.mono (TSt.of sp12) _ _ tp8
  replace tp9 := Tp.mono (TSt.of sp12) _ _ tp9
  replace te10 := Tp.mono (TSt.of sp12) _ _ te10
  replace tp10 := Tp.mono (TSt.of sp12) _ _ tp10
  replace te11 := Tp.mono (TSt.of sp12) _ _ te11
  replace tp11 := Tp.mono (TSt.of sp12) _ _ tp11
  replace te12 := Tp.mono (TSt.of sp12) _ _ te12
  replace sc := sc.trans sp12
  clear sp12
  generalize upd Hc p12 (.tup [.str "variant", .int 0, .ref e12]) = Hc at *
  refine ⟨Nat.zero_le _, fun e13 ne13 => ?_⟩
  have se13 : Same Hc (upd Hc e13 (.tup [])) := same_new ne13 _
  have te13 : Tp (upd Hc e13 (.tup [])) (.ref e13) (.tuple []) := .tup upd_same (.nil)
  replace tp8 := Tp.mono (TSt.of se13) _ _ tp8
  replace tp9 := Tp.mono (TSt.of se13) _ _ tp9
  replace te10 := Tp.mono (TSt.of se13) _ _ te10
  replace tp10 := Tp.mono (TSt.of se13) _ _ tp10
  replace te11 := Tp.mono (TSt.of se13) _ _ te11
  replace tp11 := Tp.mono (TSt.of se13) _ _ tp11
  replace te12 := Tp.mono (TSt.of se13) _ _ te12
  replace tp12 := Tp.mono (TSt.of se13) _ _ tp12
  replace sc := sc.trans se13
  clear se13
  generalize upd Hc e13 (.tup []) = Hc at *
  refine ⟨(by show 3 ≤ sizeLine; decide), fun p13 np13 => ?_⟩
  have sp13 : Same Hc (upd Hc p13 (.tup [.str "variant", .int 9, .ref e13])) := same_new np13 _
  have tp13 : Tp (upd Hc p13 (.tup [.str "variant", .int 9, .ref e13])) (.ref p13) (.tuple [.str "variant", .int 9, .tuple []]) := .tup upd_same (.cons (.str _) (.cons (.int _) (.cons (Tp.mono (TSt.of sp13) _ _ te13) (.nil))))
  replace tp8 := Tp.mono (TSt.of sp13) _ _ tp8
  replace tp9 := Tp.mono (TSt.of sp13) _ _ tp9
  replace te10 := Tp.mono (TSt.of sp13) _ _ te10
  replace tp10 := Tp.mono (TSt.of sp13) _ _ tp10
  replace te11 := Tp.mono (TSt.of sp13) _ _ te11
  replace tp11 := Tp.mono (TSt.of sp13) _ _ tp11
  replace te12 := Tp.mono (TSt.of sp13) _ _ te12
  replace tp12 := Tp.mono (TSt.of sp13) _ _ tp12
  replace te13 := Tp.mono (TSt.of sp13) _ _ te13
  replace sc := sc.trans sp13
  clear sp13
  generalize upd Hc p13 (.tup [.str "variant", .int 9, .ref e13]) = Hc at *
  refine ⟨(by show 14 ≤ sizeLine; decide), fun l nl => ?_⟩
  have hxs : TpAll Hc [.non, .bl true, .bl false, .int (-1), .int 0, .int 5, .int 4294967296, .str "box", .ref p8, .ref p9, .ref p10, .ref p11, .ref p12, .ref p13] [.none, .bool true, .bool false, .int (-1), .int 0, .int 5, .int 4294967296, .str "box", .tuple [], .tuple [.str "box", .int 1], .tuple [.str "vec", .tuple []], .tuple [.str "record", .tuple []], .tuple [.str "variant", .int 0, .tuple []], .tuple [.str "variant", .int 9, .tuple []]] := .cons (.non) (.cons (.bl _) (.cons (.bl _) (.cons (.int _) (.cons (.int _) (.cons (.int _) (.cons (.int _) (.cons (.str _) (.cons tp8 (.cons tp9 (.cons tp10 (.cons tp11 (.cons tp12 (.cons tp13 (.nil))))))))))))))
  have sl : Same Hc (upd Hc l (.lst [.non, .bl true, .bl false, .int (-1), .int 0, .int 5, .int 4294967296, .str "box", .ref p8, .ref p9, .ref p10, .ref p11, .ref p12, .ref p13])) := same_new nl _
  have el : (upd Hc l (.lst [.non, .bl true, .bl false, .int (-1), .int 0, .int 5, .int 4294967296, .str "box", .ref p8, .ref p9, .ref p10, .ref p11, .ref p12, .ref p13])) l = some (.lst [.non, .bl true, .bl false, .int (-1), .int 0, .int 5, .int 4294967296, .str "box", .ref p8, .ref p9, .ref p10, .ref p11, .ref p12, .ref p13]) := upd_same
  replace sc := sc.trans sl
  replace hxs := TpAll.mono (TSt.of sl) _ _ hxs
  clear sl
  generalize upd Hc l (.lst [.non, .bl true, .bl false, .int (-1), .int 0, .int 5, .int 4294967296, .str "box", .ref p8, .ref p9, .ref p10, .ref p11, .ref p12, .ref p13]) = Hc at *
  have hlx : ([.non, .bl true, .bl false, .int (-1), .int 0, .int 5, .int 4294967296, .str "box", .ref p8, .ref p9, .ref p10, .ref p11, .ref p12, .ref p13] : List V).length = 14 := rfl
  have hgx : ∀ d ∈ ([.none, .bool true, .bool false, .int (-1), .int 0, .int 5, .int 4294967296, .str "box", .tuple [], .tuple [.str "box", .int 1], .tuple [.str "vec", .tuple []], .tuple [.str "record", .tuple []], .tuple [.str "variant", .int 0, .tuple []], .tuple [.str "variant", .int 9, .tuple []]] : List PyData), gd 3 2 d := things_gd
  generalize ([.non, .bl true, .bl false, .int (-1), .int 0, .int 5, .int 4294967296, .str "box", .ref p8, .ref p9, .ref p10, .ref p11, .ref p12, .ref p13] : List V) = xs at *
  generalize ([.none, .bool true, .bool false, .int (-1), .int 0, .int 5, .int 4294967296, .str "box", .tuple [], .tuple [.str "box", .int 1], .tuple [.str "vec", .tuple []], .tuple [.str "record", .tuple []], .tuple [.str "variant", .int 0, .tuple []], .tuple [.str "variant", .int 9, .tuple []]] : List PyData) = ds0 at *
  -- thing
  replace hv := Tp.mono (TSt.of sc) _ _ hv
  replace hd := hd.same sc
  replace q : ∀ v' d' H', St1 dd Hc H' → Dr H' dd rr → Tp H' v' d' → gd (2 * W + 1) n d' → Q v' H' := fun v' d' H' s' => q v' d' H' ((St1.of sc).trans s')
  clear sc
  refine ⟨v, rfl, v, d, rfl, hv, _, rfl, ite2 (fun c => ?_) (fun c => ?_)⟩
  · skip
    refine ⟨.ref l, rfl, _, rfl, dd, rr, rfl, hd, fun x H5 hx s5 d5 => ?_⟩
    have el5 := s5 _ _ el (hd.nl el)
    obtain ⟨v', hv1, hv2⟩ := pick (xs := xs) (n := xs.length) x rfl (by rw [hlx]; decide)
    refine ⟨.ref l, rfl, l, xs, rfl, .inl (SqL.of el5), _, _, rfl, rfl, (by show (0 : Int) < ((xs.length : Nat) : Int); rw [hlx]; decide), l, xs, _, v', rfl, rfl, SqL.of el5, hv2, ?_⟩
    obtain ⟨i, hi⟩ := List.getElem?_of_mem hv1
    obtain ⟨d', hdi, tv⟩ := (TpAll.mono (hd.ts s5) _ _ hxs).at' hi
    exact q v' d' H5 ((St1.refl dd Hc).trans s5) d5 tv (gd.mono (by omega) (hgx d' (List.mem_of_getElem? hdi)) (by omega))
  obtain ⟨ds, rfl⟩ : ∃ ds, d = .tuple ds := by cases d <;> first | exact ⟨_, rfl⟩ | exact absurd rfl c
  refine ⟨v, rfl, Nat.zero_le _, fun p np => ⟨.tuple ds, .tuple [], Tp.dp _ _ (Tp.mono (TSt.of (same_new np _)) _ _ hv), .tup (SqT.of upd_same) .nil, gd_shaped hg hn64, shaped_unit, _, rfl, ?_⟩⟩
  have sp : Same Hc (upd Hc p (.tup [])) := same_new np _
  replace hv := Tp.mono (TSt.of sp) _ _ hv
  replace hd := hd.same sp
  replace el := sp _ _ el
  replace hxs := TpAll.mono (TSt.of sp) _ _ hxs
  replace q : ∀ v' d' H', St1 dd (upd Hc p (.tup [])) H' → Dr H' dd rr → Tp H' v' d' → gd (2 * W + 1) n d' → Q v' H' := fun v' d' H' s' => q v' d' H' ((St1.of sp).trans s')
  clear sp
  generalize upd Hc p (.tup []) = Hc at *
  rw [eqv_unit]
  refine ite2 (fun c2 => ?_) (fun c2 => ?_)
  · skip
    refine ⟨.ref l, rfl, _, rfl, dd, rr, rfl, hd, fun x H5 hx s5 d5 => ?_⟩
    have el5 := s5 _ _ el (hd.nl el)
    obtain ⟨v', hv1, hv2⟩ := pick (xs := xs) (n := xs.length) x rfl (by rw [hlx]; decide)
    refine ⟨.ref l, rfl, l, xs, rfl, .inl (SqL.of el5), _, _, rfl, rfl, (by show (0 : Int) < ((xs.length : Nat) : Int); rw [hlx]; decide), l, xs, _, v', rfl, rfl, SqL.of el5, hv2, ?_⟩
    obtain ⟨i, hi⟩ := List.getElem?_of_mem hv1
    obtain ⟨d', hdi, tv⟩ := (TpAll.mono (hd.ts s5) _ _ hxs).at' hi
    exact q v' d' H5 ((St1.refl dd Hc).trans s5) d5 tv (gd.mono (by omega) (hgx d' (List.mem_of_getElem? hdi)) (by omega))
  refine ⟨_, rfl, _, _, rfl, rfl, _, rfl, ite2 (fun c3 => ?_) (fun c3 => ?_)⟩
  · skip
    refine ⟨.ref l, rfl, _, rfl, dd, rr, rfl, hd, fun x H5 hx s5 d5 => ?_⟩
    have el5 := s5 _ _ el (hd.nl el)
    obtain ⟨v', hv1, hv2⟩ := pick (xs := xs) (n := xs.length) x rfl (by rw [hlx]; decide)
    refine ⟨.ref l, rfl, l, xs, rfl, .inl (SqL.of el5), _, _, rfl, rfl, (by show (0 : Int) < ((xs.length : Nat) : Int); rw [hlx]; decide), l, xs, _, v', rfl, rfl, SqL.of el5, hv2, ?_⟩
    obtain ⟨i, hi⟩ := List.getElem?_of_mem hv1
    obtain ⟨d', hdi, tv⟩ := (TpAll.mono (hd.ts s5) _ _ hxs).at' hi
    exact q v' d' H5 ((St1.refl dd Hc).trans s5) d5 tv (gd.mono (by omega) (hgx d' (List.mem_of_getElem? hdi)) (by omega))
  have hs0 : 0 < steps := by
    have c' : ¬ steps ≤ 0 := of_decide_eq_false (Bool.eq_false_iff.mpr c3)
    omega
  obtain ⟨n', rfl, hdl, hdg⟩ := gd_tup hg
  refine ⟨_, rfl, dd, rr, rfl, hd, fun x H1 hx s1 d1 => ?_⟩
  have hv1 := Tp.mono (hd.ts s1) _ _ hv
  refine ⟨v, rfl, v, ds, rfl, hv1, _, _, rfl, rfl, _, _, rfl, rfl, (by show (0 : Int) < ((ds.length : Nat) : Int) + 1; omega), ?_⟩
  obtain ⟨t, ht, htl⟩ := mod_nat x (ds.length + 1) (by omega)
  have ht' : x % (((ds.length : Nat) : Int) + 1) = ((t : Nat) : Int) := by
    have e : (((ds.length + 1 : Nat) : Nat) : Int) = ((ds.length : Nat) : Int) + 1 := by omega
    rw [← e]
    exact ht
  refine ⟨_, rfl, v, rfl, v, ds, rfl, hv1, _, _, rfl, rfl, _, rfl, ite2 (fun c4 => ?_) (fun c4 => ?_)⟩
  · refine ⟨v, rfl, 1, rfl, _, rfl, ds, hv1, fun z1 H2 s2 tz1 => ?_⟩
    have hv2 := Tp.mono (TSt.of s2) _ _ hv1
    refine ⟨v, rfl, v, rfl, 1, rfl, _, rfl, ds, hv2, fun z2 H3 s3 tz2 => ?_⟩
    have hv3 := Tp.mono (TSt.of s3) _ _ hv2
    have l1 := cutD_len ds none (some (-1))
    have l2 := cutD_len ds (some (-1)) none
    refine ⟨ds, _, hv3, tz2, by omega, by omega, fun z3 H4 s4 tz3 => ⟨(by show 2 ≤ sizeLine; decide), fun l' nl' => ?_⟩⟩
    have s14 := (s2.trans s3).trans s4
    have s5 : Same H4 (upd H4 l' (.lst [z1, z3])) := same_new nl' _
    have d5 := d1.same (s14.trans s5)
    have e5 : (upd H4 l' (.lst [z1, z3])) l' = some (.lst [z1, z3]) := upd_same
    have tz1' := Tp.mono (TSt.of ((s3.trans s4).trans s5)) _ _ tz1
    have tz3' := Tp.mono (TSt.of s5) _ _ tz3
    refine ⟨_, rfl, dd, rr, rfl, d5, fun x2 H6 hx2 s6 d6 => ⟨_, _, rfl, rfl, (by show (0 : Int) < 2; decide), ?_⟩⟩
    obtain ⟨v', hv1', hv2'⟩ := pick (xs := [z1, z3]) (n := 2) x2 rfl (by decide)
    refine ⟨l', _, _, v', rfl, rfl, SqL.of (s6 _ _ e5 (d5.nl e5)), hv2', ?_⟩
    have st6 := (s1.trans (St1.of (s14.trans s5))).trans s6
    rcases List.mem_cons.mp hv1' with rfl | hv1'
    · exact q v' _ H6 st6 d6 (Tp.mono (d5.ts s6) _ _ tz1') ⟨by omega, fun d hd' => gd.mono (by omega) (hdg d (cutD_mem hd')) (Nat.le_refl _)⟩
    · obtain rfl := List.mem_singleton.mp hv1'
      refine q v' _ H6 st6 d6 (Tp.mono (d5.ts s6) _ _ tz3') ⟨by rw [List.length_append]; omega, fun d hd' => ?_⟩
      rcases List.mem_append.mp hd' with h | h
      · exact gd.mono (by omega) (hdg d h) (Nat.le_refl _)
      · exact gd.mono (by omega) (hdg d (cutD_mem h)) (Nat.le_refl _)
  · have htn : t < ds.length := by
      have c' : ¬ x % (((ds.length : Nat) : Int) + 1) = ((ds.length : Nat) : Int) := of_decide_eq_false (Bool.eq_false_iff.mpr c4)
      omega
    obtain ⟨d0, hd0⟩ : ∃ d0, ds[t]? = some d0 := ⟨_, List.getElem?_eq_getElem htn⟩
    refine ⟨v, rfl, _, rfl, _, rfl, ds, hv1, fun z1 H2 s2 tz1 => ?_⟩
    have hv2 := Tp.mono (TSt.of s2) _ _ hv1
    refine ⟨_, rfl, v, rfl, _, rfl, ds, t, d0, hv2, congrArg V.int ht', hd0, fun z0 hz0 => ⟨_, rfl, _, _, rfl, rfl, sn - 1, by omega, dd, rr, z0, d0, steps - 1, W, n', rfl, d1.same s2, hz0, gd_get hdg hd0, by omega, by omega, by omega, hW1, hW, fun w dw H3 s3 d3 tw gw => ⟨(by show 1 ≤ sizeLine; decide), fun p2 np2 => ?_⟩⟩⟩
    have ts3 := (d1.same s2).ts s3
    have s4 : Same H3 (upd H3 p2 (.tup [w])) := same_new np2 _
    have tz1' := Tp.mono (TSt.of s4) _ _ (Tp.mono ts3 _ _ tz1)
    have t2 : Tp (upd H3 p2 (.tup [w])) (.ref p2) (.tuple [dw]) := .tup upd_same (.cons (Tp.mono (TSt.of s4) _ _ tw) .nil)
    have l1 := cutD_len ds none (some (x % (((ds.length : Nat) : Int) + 1)))
    refine ⟨_, [dw], tz1', t2, by omega, by simp, fun z3 H5 s5 tz3 => ?_⟩
    have hv5 := Tp.mono (TSt.of (s4.trans s5)) _ _ (Tp.mono ts3 _ _ hv2)
    refine ⟨v, rfl, _, rfl, _, _, rfl, rfl, _, rfl, ds, hv5, fun z4 H6 s6 tz4 => ?_⟩
    have l2 := cutD_len ds (some (x % (((ds.length : Nat) : Int) + 1) + 1)) none
    refine ⟨_, _, Tp.mono (TSt.of s6) _ _ tz3, tz4, by rw [List.length_append, List.length_singleton]; omega, by omega, fun z5 H7 s7 tz5 => ?_⟩
    have s47 := ((s4.trans s5).trans s6).trans s7
    refine q z5 _ H7 (((s1.trans (St1.of s2)).trans s3).trans (St1.of s47)) (d3.same s47) tz5 ⟨by rw [List.length_append, List.length_append, List.length_singleton]; omega, fun d hd' => ?_⟩
    rcases List.mem_append.mp hd' with h | h
    · rcases List.mem_append.mp h with h | h
      · exact gd.mono (by omega) (hdg d (cutD_mem h)) (Nat.le_refl _)
      · rw [List.mem_singleton.mp h]
        exact gw
    · exact gd.mono (by omega) (hdg d (cutD_mem h)) (Nat.le_refl _)
theorem all_spoilt {f f1 : Addr} {fd d1 : FuncData} (D : Df K mg "_law_spoilt" sSpoilt pSp f fd) (N : Nm K w mg) (Dt : Df K mg "_law_take" sTake ["_law_d"] f1 d1) : ∀ s, FnOk P w K mg base CX0 (s + 2) f fd pSp (spSpoilt s) := fun s =>
  Nat.strongRecOn s fun s ih => ok_spoilt (by omega) D N Dt (FnOk.below fun m hm => (ih m hm).mono (by omega))
end
end My
set_option maxRecDepth 100000
set_option maxHeartbeats 4000000
namespace My
open PySem L2
abbrev BO : Type := {B : Bk // B.Ok}
def Wt : Nat → Nat
  | 0 => 10
  | t + 1 => 2 * Wt t + 1
def spLaw (K : PySem.W.Frag) : Sp := fun vs H Q _ => ∃ (a : Addr) (ns : List Int), vs = [.ref a] ∧ SqL K H a (ns.map V.int) ∧ ns.length ≤ 63 ∧ ∀ H', Q (.bl true) H'
section
variable {P : Program} {w : World} {K : PySem.W.Frag} {mg : Str → Option Value} {base : Heap}
abbrev nLaw : List Str := ["_law_script", "_law_d", "_law_book_here", "_law_counts", "_law_k", "_law_kind", "_law_value_here", "_law_turn", "_law_told"]
theorem scLaw : FnScope nLaw ["_law_script"] (defScope sLaw) := ⟨rfl, rfl, rfl, by decide +kernel, rfl, by decide +kernel, by decide +kernel⟩
theorem ok_law {k : Nat} (hk1 : 1 ≤ k) {f ft f1 f2 f3 f4 f5 f6 f7 f8 f9 fA fB : Addr} {fd dt d1 d2 d3 d4 d5 d6 d7 d8 d9 dA dB : FuncData} (D : Df K mg "law" sLaw ["_law_script"] f fd) (N : Nm K w mg) (Dt : Df K mg "_law_take" sTake ["_law_d"] ft dt)
    (D1 : Df K mg "_law_start" sStart ["_law_script"] f1 d1) (G1 : FnOk P w K mg base CX0 k f1 d1 ["_law_script"] (spStart K))
    (D2 : Df K mg "_law_book" sBook ["_law_d"] f2 d2) (G2 : FnOk P w K mg base CX0 k f2 d2 ["_law_d"] spBook)
    (D3 : Df K mg "_law_places_right" sPlaces ["_law_book_here"] f3 d3) (G3 : FnOk P w K mg base CX0 k f3 d3 ["_law_book_here"] (fun vs H Q E => ∃ i : BO, spPlaces i.1 vs H Q E))
    (D4 : Df K mg "_law_data" sData pData f4 d4) (G4 : FnOk P w K mg base CX0 k f4 d4 pData (fun vs H Q E => ∃ i : Nat × Nat, spData i.1 i.2 3 vs H Q E))
    (D5 : Df K mg "size_of" sSizeOf ["book", "kind"] f5 d5) (G5 : FnOk P w K mg base CX0 k f5 d5 ["book", "kind"] (fun vs H Q E => ∃ i : BO, spSizeOf i.1 vs H Q E))
    (D6 : Df K mg "_law_flat" sFlat ["_law_book_here", "_law_kind"] f6 d6) (G6 : FnOk P w K mg base CX0 k f6 d6 ["_law_book_here", "_law_kind"] (fun vs H Q E => ∃ i : BO, spFlat i.1 6 vs H Q E))
    (D7 : Df K mg "_law_finite" sFinite pFin f7 d7) (G7 : FnOk P w K mg base CX0 k f7 d7 pFin (fun vs H Q E => ∃ i : BO, spFin i.1 34 vs H Q E))
    (D8 : Df K mg "_law_value" sValue pVal f8 d8) (G8 : FnOk P w K mg base CX0 k f8 d8 pVal (fun vs H Q E => ∃ i : BO, spValue i.1 38 vs H Q E))
    (D9 : Df K mg "is_value" sIsVal pIs f9 d9) (G9 : FnOk P w K mg base CX0 k f9 d9 pIs (fun vs H Q E => ∃ i : BO, spIsV i.1 100 38 vs H Q E))
    (DA : Df K mg "_law_spoilt" sSpoilt pSp fA dA) (GA : FnOk P w K mg base CX0 k fA dA pSp (spSpoilt 4))
    (DB : Df K mg "_law_is_value" sLIsVal pLIs fB dB) (GB : FnOk P w K mg base CX0 k fB dB pLIs (fun vs H Q E => ∃ i : BO, spIsV i.1 100 38 vs H Q E)) :
    FnOk P w K mg base CX0 (k + 1) f fd ["_law_script"] (spLaw K) := by
  have Gt := (ok_take (P := P) (base := base) Dt N).mono hk1
  refine D.F.ok scLaw (fun vs H Q E h => ?_) (fun cdv A outer s H vs Q E hr h => ?_)
  · obtain ⟨a, ns, rfl, _⟩ := h
    rfl
  obtain ⟨a, ns, rfl, hS, h63, q⟩ := h
  refine ⟨_, pss_cons (ps_set (i := 1) scLaw.nd rfl (Or.inl rfl) (cl D1 G1 hr (pa_cons (pv 0) (pa_nil)))) (pss_cons (ps_set (i := 2) scLaw.nd rfl (Or.inl rfl) (cl D2 G2 hr (pa_cons (pv 1) (pa_nil)))) (pss_cons (ps_set (i := 3) scLaw.nd rfl (Or.inl rfl) (pe_disp (pps_cons (pe_str) (pe_len1 N (pe_ix ix_item (pv 2) (pe_int) (fun _ _ => rfl))) (pps_cons (pe_str) (pe_len1 N (pe_ix ix_item (pv 2) (pe_int) (fun _ _ => rfl))) (pps_nil))) (by rfl) (by rfl) (fun z => by cases z) (by decide))) (pss_cons (ps_if (pt_not (pt_val (cl D3 G3 hr (pa_cons (pv 2) (pa_nil))))) (pss_one (ps_ret (pe_bl))) pss_nil) (pss_cons (ps_for PassesOwn.never rfl (pi_range1 rfl N.range (pa_cons (pe_int) (pa_nil))) (pg_name (i := 4) scLaw.nd rfl (Or.inl rfl)) (pss_cons (ps_set (i := 5) scLaw.nd rfl (Or.inl rfl) (cl D4 G4 hr (pa_cons (pv 1) (pa_cons (pv 3) (pa_cons (pe_int) (pa_nil)))))) (pss_cons (ps_if (PW.pt (pw_or (pt_cmpR op_neI (cl D5 G5 hr (pa_cons (pv 2) (pa_cons (pv 5) (pa_nil)))) (cl D6 G6 hr (pa_cons (pv 2) (pa_cons (pv 5) (pa_nil)))) (nomark _)) (pw_or (pt_cmpR op_neI (cl D5 G5 hr (pa_cons (pv 2) (pa_cons (pe_tup (pa_cons (pe_str) (pa_cons (pv 5) (pa_nil)))) (pa_nil)))) (pe_int) (nomark _)) (pw_or1 (pt_cmpR op_neI (cl D5 G5 hr (pa_cons (pv 2) (pa_cons (pe_tup (pa_cons (pe_str) (pa_cons (pv 5) (pa_nil)))) (pa_nil)))) (pe_int) (nomark _)))))) (pss_one (ps_ret (pe_bl))) pss_nil) (pss_one (ps_if (pt_val (cl D7 G7 hr (pa_cons (pv 2) (pa_cons (pv 5) (pa_cons (pe_lst (pa_nil)) (pa_nil)))))) (pss_cons (ps_set (i := 6) scLaw.nd rfl (Or.inl rfl) (cl D8 G8 hr (pa_cons (pv 1) (pa_cons (pv 2) (pa_cons (pv 5) (pa_cons (pe_int) (pa_nil))))))) (pss_cons (ps_if (pt_cmpR op_notBl (cl D9 G9 hr (pa_cons (pv 2) (pa_cons (pv 5) (pa_cons (pv 6) (pa_nil))))) (pe_bl) (nomark _)) (pss_one (ps_ret (pe_bl))) pss_nil) (pss_one (ps_for PassesOwn.never rfl (pi_range1 rfl N.range (pa_cons (pe_int) (pa_nil))) (pg_name (i := 7) scLaw.nd rfl (Or.inl rfl)) (pss_cons (ps_set (i := 6) scLaw.nd rfl (Or.inl rfl) (cl DA GA hr (pa_cons (pv 1) (pa_cons (pv 6) (pa_cons (pe_op op_add (pe_int) (pe_op op_mod (cl Dt Gt hr (pa_cons (pv 1) (pa_nil))) (pe_int))) (pa_nil)))))) (pss_cons (ps_set (i := 8) scLaw.nd rfl (Or.inl rfl) (cl D9 G9 hr (pa_cons (pv 2) (pa_cons (pv 5) (pa_cons (pv 6) (pa_nil)))))) (pss_one (ps_if (PW.pt (pw_or (pt_not (pt_val (pe_isBool N (pv 8)))) (pw_or1 (pt_cmpR op_ne (pv 8) (cl DB GB hr (pa_cons (pv 2) (pa_cons (pv 5) (pa_cons (pv 6) (pa_nil))))) (nomark _))))) (pss_one (ps_ret (pe_bl))) pss_nil)))))))) pss_nil))))) (pss_one (ps_ret (pe_bl))))))), ?_⟩
  refine ⟨_, rfl, a, ns, rfl, hS, h63, fun dd rr H1 s1 dr1 _ => ?_⟩
  refine ⟨_, rfl, dd, rr, rfl, dr1, fun b B H2 s2 dr2 O hb2 => ?_⟩
  intro cc ncc
  have scc : Same H2 (upd H2 cc (.dK [])) := same_new ncc _
  have hb3 := Tp.mono (TSt.of scc) _ _ hb2
  refine ⟨b, rfl, _, 0, _, hb3, rfl, rfl, fun z hz => ⟨z, _, rfl, hz, b, rfl, _, 1, _, hb3, rfl, rfl, fun z2 hz2 => ⟨z2, _, rfl, hz2, upd_same, [(.inr "record", .int (((B.rs.map ksD).length : Nat) : Int)), (.inr "variant", .int (((B.vs.map tsD).length : Nat) : Int))], rfl, (by show 2 ≤ 15; decide), ?_⟩⟩⟩
  rw [merge_rv, upd_upd, List.length_map, List.length_map]
  have s3 : Same H2 (upd H2 cc (.dK [(.inr "record", .int ((B.rs.length : Nat) : Int)), (.inr "variant", .int ((B.vs.length : Nat) : Int))])) := same_new ncc _
  have cn3 : Cn (upd H2 cc (.dK [(.inr "record", .int ((B.rs.length : Nat) : Int)), (.inr "variant", .int ((B.vs.length : Nat) : Int))])) cc B.rs.length B.vs.length := upd_same
  have hb4 := Tp.mono (TSt.of s3) _ _ hb2
  have dr4 := dr2.same s3
  generalize upd H2 cc (.dK [(.inr "record", .int ((B.rs.length : Nat) : Int)), (.inr "variant", .int ((B.vs.length : Nat) : Int))]) = H4 at *
  refine ⟨b, rfl, ⟨B, O⟩, b, rfl, hb4, fun H5 s5 => ⟨_, rfl, ite2 (fun c => by cases c) (fun _ => ?_)⟩⟩
  have hb5 := Tp.mono (TSt.of s5) _ _ hb4
  have dr5 := dr4.same s5
  have cn5 := cn3.same s5
  refine ⟨_, rfl, by decide, by decide, for_range0 (fun i σ H' => ∃ x4 x5 x6 x7 x8, σ = [some (.ref a), some (.ref dd), some b, some (.ref cc), x4, x5, x6, x7, x8] ∧ St1 dd H5 H' ∧ Dr H' dd rr) ⟨_, _, _, _, _, rfl, St1.refl _ _, dr5⟩ (fun i σ H6 hi ⟨x4, x5, x6, x7, x8, e, st6, dr6⟩ => ?_) (fun σ H6 ⟨x4, x5, x6, x7, x8, e, st6, dr6⟩ => q H6)⟩
  subst e
  have hb6 := Tp.mono (dr5.ts st6) _ _ hb5
  have cn6 := cn5.st dr5 st6
  refine ⟨_, rfl, _, rfl, (B.rs.length, B.vs.length), dd, rr, cc, 3, rfl, rfl, dr6, cn6, O.r1, O.v1, fun kv kd H7 s7 dr7 tk7 kf7 kw7 kp7 => ?_⟩
  have hb7 := Tp.mono (dr6.ts s7) _ _ hb6
  have hrk := rk_le O kf7
  have kg : KG B kd := ⟨kf7, by omega, by omega, hrk⟩
  have st7 := st6.trans s7
  -- the sizes
  refine ⟨b, rfl, kv, rfl, ⟨B, O⟩, b, kv, kd, rfl, hb7, tk7, .inl kf7, hrk, fun H8 s8 => ?_⟩
  have hb8 := Tp.mono (TSt.of s8) _ _ hb7
  have tk8 := Tp.mono (TSt.of s8) _ _ tk7
  refine ⟨b, rfl, kv, rfl, ⟨B, O⟩, b, kv, kd, rfl, hb8, tk8, kf7, hrk, fun H9 s9 => ⟨_, _, rfl, rfl, _, rfl, ite2 (fun c => ?_) (fun _ => ?_)⟩⟩
  · have c' : (!decide (size B kd = size B kd)) = true := c
    simp at c'
  have s79 := s8.trans s9
  refine ⟨b, rfl, _, rfl, (by show 2 ≤ sizeLine; decide), fun p1 n1 => ?_⟩
  have sp1 : Same H9 (upd H9 p1 (.tup [.str "ref", kv])) := same_new n1 _
  have sA := s79.trans sp1
  refine ⟨⟨B, O⟩, b, .ref p1, .rf kd, rfl, Tp.mono (TSt.of sA) _ _ hb7, .tup upd_same (.cons (.str _) (.cons (Tp.mono (TSt.of sA) _ _ tk7) .nil)), .inr ⟨kd, .inl rfl⟩, Nat.zero_le _, fun H10 s10 => ⟨_, _, rfl, rfl, _, rfl, ite2 (fun c => ?_) (fun _ => ?_)⟩⟩
  · cases c
  have sB := sA.trans s10
  refine ⟨b, rfl, _, rfl, (by show 2 ≤ sizeLine; decide), fun p2 n2 => ?_⟩
  have sp2 : Same H10 (upd H10 p2 (.tup [.str "mut", kv])) := same_new n2 _
  have sC := sB.trans sp2
  refine ⟨⟨B, O⟩, b, .ref p2, .mt kd, rfl, Tp.mono (TSt.of sC) _ _ hb7, .tup upd_same (.cons (.str _) (.cons (Tp.mono (TSt.of sC) _ _ tk7) .nil)), .inr ⟨kd, .inr rfl⟩, Nat.zero_le _, fun H11 s11 => ⟨_, _, rfl, rfl, _, rfl, ite2 (fun c => ?_) (fun _ => ?_)⟩⟩
  · cases c
  have sD := sC.trans s11
  have hb11 := Tp.mono (TSt.of sD) _ _ hb7
  have tk11 := Tp.mono (TSt.of sD) _ _ tk7
  have dr11 := dr7.same sD
  have st11 := st7.trans (St1.of sD)
  -- finite
  have fr := free_le O []
  refine ⟨b, rfl, kv, rfl, Nat.zero_le _, fun p3 n3 => ?_⟩
  have sp3 : Same H11 (upd H11 p3 (.lst [])) := same_new n3 _
  refine ⟨⟨B, O⟩, b, kv, kd, p3, [], [], rfl, Tp.mono (TSt.of sp3) _ _ hb11, Tp.mono (TSt.of sp3) _ _ tk11, kg, upd_same, .nil, by simp, by simp only [List.length_nil]; omega, by have := kg.dep; show 5 * free B [] + kd.dep ≤ 34; omega, fun H12 s12 => ⟨_, rfl, ite2 (fun cf => ?_) (fun _ => ?_)⟩⟩
  · have sE := sp3.trans s12
    have hb12 := Tp.mono (TSt.of sE) _ _ hb11
    have tk12 := Tp.mono (TSt.of sE) _ _ tk11
    have dr12 := dr11.same sE
    have st12 := st11.trans (St1.of sE)
    have fd28 := fin_top O kg cf
    refine ⟨_, rfl, b, rfl, kv, rfl, ⟨B, O⟩, dd, rr, b, kv, kd, 5, rfl, dr12, hb12, tk12, kg, .inl ⟨by decide, fd28, by decide⟩, fun v d H13 s13 dr13 tv13 hv13 => ?_⟩
    have ts13 := dr12.ts s13
    have hb13 := Tp.mono ts13 _ _ hb12
    have tk13 := Tp.mono ts13 _ _ tk12
    refine ⟨b, rfl, kv, rfl, v, rfl, ⟨B, O⟩, b, kv, v, kd, d, rfl, hb13, tk13, kf7, tv13, gd.mono (by omega) hv13.1 (Nat.le_refl _), fun H14 s14 => ?_⟩
    rw [hv13.2 38 (Nat.le_refl _)]
    refine ⟨true, true, rfl, rfl, _, rfl, ite2 (fun c => absurd c (by decide)) (fun _ => ?_)⟩
    have dr14 := dr13.same s14
    have hb14 := Tp.mono (TSt.of s14) _ _ hb13
    have tk14 := Tp.mono (TSt.of s14) _ _ tk13
    have st14 := (st12.trans s13).trans (St1.of s14)
    refine ⟨_, rfl, by decide, by decide, for_range0 (fun t σ H' => ∃ v d x7 x8, σ = [some (.ref a), some (.ref dd), some b, some (.ref cc), some (.int ((i : Nat) : Int)), some kv, some v, x7, x8] ∧ St1 dd H14 H' ∧ Dr H' dd rr ∧ Tp H' v d ∧ gd (Wt t) 38 d) ⟨v, d, _, _, rfl, St1.refl _ _, dr14, Tp.mono (TSt.of s14) _ _ tv13, hv13.1⟩ (fun t σ H15 ht ⟨v, d, x7, x8, e, st15, dr15, tv15, g15⟩ => ?_) (fun σ H15 ⟨v, d, x7, x8, e, st15, dr15, tv15, g15⟩ => ?_)⟩
    · subst e
      have ht3 : t < 3 := ht
      have hW : Wt t ≤ 43 ∧ 1 ≤ Wt t := by
        have h3 : t = 0 ∨ t = 1 ∨ t = 2 := by omega
        rcases h3 with rfl | rfl | rfl <;> decide
      refine ⟨_, rfl, v, rfl, _, rfl, dd, rr, rfl, dr15, fun x H16 hx s16 dr16 => ⟨_, _, rfl, rfl, (by show (0 : Int) < 4; decide), _, _, rfl, rfl, ?_⟩⟩
      have tv16 := Tp.mono (dr15.ts s16) _ _ tv15
      have hm1 := Int.emod_lt_of_pos x (show (0 : Int) < 4 by decide)
      refine ⟨dd, rr, v, d, _, Wt t, 38, rfl, dr16, tv16, g15, (by show (1 : Int) + x % 4 ≤ 4; omega), by decide, by decide, hW.2, by omega, fun v' d' H17 s17 dr17 tv17 g17 => ?_⟩
      have st17 := (st15.trans s16).trans s17
      have ts17 := dr14.ts st17
      have hb17 := Tp.mono ts17 _ _ hb14
      have tk17 := Tp.mono ts17 _ _ tk14
      have g100 : gd 100 38 d' := gd.mono (by omega) g17 (Nat.le_refl _)
      refine ⟨b, rfl, kv, rfl, v', rfl, ⟨B, O⟩, b, kv, v', kd, d', rfl, hb17, tk17, kf7, tv17, g100, fun H18 s18 => ?_⟩
      refine ⟨_, rfl, _, _, rfl, .bl _, _, rfl, ite2 (fun c => ?_) (fun _ => ?_)⟩
      · cases c
      have sF := s18
      refine ⟨_, rfl, b, rfl, kv, rfl, v', rfl, ⟨B, O⟩, b, kv, v', kd, d', rfl, Tp.mono (TSt.of s18) _ _ hb17, Tp.mono (TSt.of s18) _ _ tk17, kf7, Tp.mono (TSt.of s18) _ _ tv17, g100, fun H19 s19 => ⟨rfl, _, rfl, ite2 (fun c => ?_) (fun _ => ?_)⟩⟩
      · have c' : (!decide (V.bl (isVF B 38 kd d') = V.bl (isVF B 38 kd d'))) = true := c
        simp at c'
      · have s8 := s18.trans s19
        exact ⟨v', d', _, _, rfl, st17.trans (St1.of s8), dr17.same s8, Tp.mono (TSt.of s8) _ _ tv17, g17⟩
    · subst e
      exact ⟨_, _, _, _, _, rfl, st14.trans st15, dr15⟩
  · have sE := sp3.trans s12
    exact ⟨_, _, _, _, _, rfl, st11.trans (St1.of sE), dr11.same sE⟩
end
end My
set_option maxRecDepth 100000
set_option maxHeartbeats 4000000
namespace My
open PySem L2
theorem all_mk {l : PySem.W.OpenLaw} {w : World} {K : PySem.W.Frag} {h : Heap} {mg : Str → Option Value} {fa dS : Addr} (X : K.In h) (G : h.Ns mainGlobals mg) (hfa : mg "law" = some (.ref fa))
    {f1 : Addr} {od1 an1 : Option Addr} {sl1 : Array (Option Value)} {oc1 kV1 dc1 pm1 cd1 ct1 : Value}
    (a1 : PySem.W.nsIn K mainGlobals "is_number" = some (some (.ref f1))) (l1 : K.lookup f1 = some ⟨oc1, od1, .func (PySem.W.fnOf "is_number" "is_number" (defArgs sNumber) (defBody sNumber) (defScope sNumber) .none kV1 dc1 pm1 an1 cd1 ct1), sl1⟩) (c1 : PySem.W.codeIn K cd1 "is_number" = true) (k1 : PySem.W.keepIn K (.ref f1) = true)
    {f2 : Addr} {od2 an2 : Option Addr} {sl2 : Array (Option Value)} {oc2 kV2 dc2 pm2 cd2 ct2 : Value}
    (a2 : PySem.W.nsIn K mainGlobals "has_word" = some (some (.ref f2))) (l2 : K.lookup f2 = some ⟨oc2, od2, .func (PySem.W.fnOf "has_word" "has_word" (defArgs sHasWord) (defBody sHasWord) (defScope sHasWord) .none kV2 dc2 pm2 an2 cd2 ct2), sl2⟩) (c2 : PySem.W.codeIn K cd2 "has_word" = true) (k2 : PySem.W.keepIn K (.ref f2) = true)
    {f3 : Addr} {od3 an3 : Option Addr} {sl3 : Array (Option Value)} {oc3 kV3 dc3 pm3 cd3 ct3 : Value}
    (a3 : PySem.W.nsIn K mainGlobals "named_size" = some (some (.ref f3))) (l3 : K.lookup f3 = some ⟨oc3, od3, .func (PySem.W.fnOf "named_size" "named_size" (defArgs sNamed) (defBody sNamed) (defScope sNamed) .none kV3 dc3 pm3 an3 cd3 ct3), sl3⟩) (c3 : PySem.W.codeIn K cd3 "named_size" = true) (k3 : PySem.W.keepIn K (.ref f3) = true)
    {f4 : Addr} {od4 an4 : Option Addr} {sl4 : Array (Option Value)} {oc4 kV4 dc4 pm4 cd4 ct4 : Value}
    (a4 : PySem.W.nsIn K mainGlobals "flat_size" = some (some (.ref f4))) (l4 : K.lookup f4 = some ⟨oc4, od4, .func (PySem.W.fnOf "flat_size" "flat_size" (defArgs sFlatSize) (defBody sFlatSize) (defScope sFlatSize) .none kV4 dc4 pm4 an4 cd4 ct4), sl4⟩) (c4 : PySem.W.codeIn K cd4 "flat_size" = true) (k4 : PySem.W.keepIn K (.ref f4) = true)
    {f5 : Addr} {od5 an5 : Option Addr} {sl5 : Array (Option Value)} {oc5 kV5 dc5 pm5 cd5 ct5 : Value}
    (a5 : PySem.W.nsIn K mainGlobals "sum_of_sizes" = some (some (.ref f5))) (l5 : K.lookup f5 = some ⟨oc5, od5, .func (PySem.W.fnOf "sum_of_sizes" "sum_of_sizes" (defArgs sSumSizes) (defBody sSumSizes) (defScope sSumSizes) .none kV5 dc5 pm5 an5 cd5 ct5), sl5⟩) (c5 : PySem.W.codeIn K cd5 "sum_of_sizes" = true) (k5 : PySem.W.keepIn K (.ref f5) = true)
    {f6 : Addr} {od6 an6 : Option Addr} {sl6 : Array (Option Value)} {oc6 kV6 dc6 pm6 cd6 ct6 : Value}
    (a6 : PySem.W.nsIn K mainGlobals "size_of" = some (some (.ref f6))) (l6 : K.lookup f6 = some ⟨oc6, od6, .func (PySem.W.fnOf "size_of" "size_of" (defArgs sSizeOf) (defBody sSizeOf) (defScope sSizeOf) .none kV6 dc6 pm6 an6 cd6 ct6), sl6⟩) (c6 : PySem.W.codeIn K cd6 "size_of" = true) (k6 : PySem.W.keepIn K (.ref f6) = true)
    {f7 : Addr} {od7 an7 : Option Addr} {sl7 : Array (Option Value)} {oc7 kV7 dc7 pm7 cd7 ct7 : Value}
    (a7 : PySem.W.nsIn K mainGlobals "field_place" = some (some (.ref f7))) (l7 : K.lookup f7 = some ⟨oc7, od7, .func (PySem.W.fnOf "field_place" "field_place" (defArgs sField) (defBody sField) (defScope sField) .none kV7 dc7 pm7 an7 cd7 ct7), sl7⟩) (c7 : PySem.W.codeIn K cd7 "field_place" = true) (k7 : PySem.W.keepIn K (.ref f7) = true)
    {f8 : Addr} {od8 an8 : Option Addr} {sl8 : Array (Option Value)} {oc8 kV8 dc8 pm8 cd8 ct8 : Value}
    (a8 : PySem.W.nsIn K mainGlobals "part_place" = some (some (.ref f8))) (l8 : K.lookup f8 = some ⟨oc8, od8, .func (PySem.W.fnOf "part_place" "part_place" (defArgs sPart) (defBody sPart) (defScope sPart) .none kV8 dc8 pm8 an8 cd8 ct8), sl8⟩) (c8 : PySem.W.codeIn K cd8 "part_place" = true) (k8 : PySem.W.keepIn K (.ref f8) = true)
    {f9 : Addr} {od9 an9 : Option Addr} {sl9 : Array (Option Value)} {oc9 kV9 dc9 pm9 cd9 ct9 : Value}
    (a9 : PySem.W.nsIn K mainGlobals "are_values" = some (some (.ref f9))) (l9 : K.lookup f9 = some ⟨oc9, od9, .func (PySem.W.fnOf "are_values" "are_values" (defArgs sAreVals) (defBody sAreVals) (defScope sAreVals) .none kV9 dc9 pm9 an9 cd9 ct9), sl9⟩) (c9 : PySem.W.codeIn K cd9 "are_values" = true) (k9 : PySem.W.keepIn K (.ref f9) = true)
    {f10 : Addr} {od10 an10 : Option Addr} {sl10 : Array (Option Value)} {oc10 kV10 dc10 pm10 cd10 ct10 : Value}
    (a10 : PySem.W.nsIn K mainGlobals "is_value" = some (some (.ref f10))) (l10 : K.lookup f10 = some ⟨oc10, od10, .func (PySem.W.fnOf "is_value" "is_value" (defArgs sIsVal) (defBody sIsVal) (defScope sIsVal) .none kV10 dc10 pm10 an10 cd10 ct10), sl10⟩) (c10 : PySem.W.codeIn K cd10 "is_value" = true) (k10 : PySem.W.keepIn K (.ref f10) = true)
    {f11 : Addr} {od11 an11 : Option Addr} {sl11 : Array (Option Value)} {oc11 kV11 dc11 pm11 cd11 ct11 : Value}
    (a11 : PySem.W.nsIn K mainGlobals "_law_draws" = some (some (.ref f11))) (l11 : K.lookup f11 = some ⟨oc11, od11, .func (PySem.W.fnOf "_law_draws" "_law_draws" (defArgs sDraws) (defBody sDraws) (defScope sDraws) .none kV11 dc11 pm11 an11 cd11 ct11), sl11⟩) (c11 : PySem.W.codeIn K cd11 "_law_draws" = true) (k11 : PySem.W.keepIn K (.ref f11) = true)
    {f12 : Addr} {od12 an12 : Option Addr} {sl12 : Array (Option Value)} {oc12 kV12 dc12 pm12 cd12 ct12 : Value}
    (a12 : PySem.W.nsIn K mainGlobals "_law_take" = some (some (.ref f12))) (l12 : K.lookup f12 = some ⟨oc12, od12, .func (PySem.W.fnOf "_law_take" "_law_take" (defArgs sTake) (defBody sTake) (defScope sTake) .none kV12 dc12 pm12 an12 cd12 ct12), sl12⟩) (c12 : PySem.W.codeIn K cd12 "_law_take" = true) (k12 : PySem.W.keepIn K (.ref f12) = true)
    {f13 : Addr} {od13 an13 : Option Addr} {sl13 : Array (Option Value)} {oc13 kV13 dc13 pm13 cd13 ct13 : Value}
    (a13 : PySem.W.nsIn K mainGlobals "_law_start" = some (some (.ref f13))) (l13 : K.lookup f13 = some ⟨oc13, od13, .func (PySem.W.fnOf "_law_start" "_law_start" (defArgs sStart) (defBody sStart) (defScope sStart) .none kV13 dc13 pm13 an13 cd13 ct13), sl13⟩) (c13 : PySem.W.codeIn K cd13 "_law_start" = true) (k13 : PySem.W.keepIn K (.ref f13) = true)
    {f14 : Addr} {od14 an14 : Option Addr} {sl14 : Array (Option Value)} {oc14 kV14 dc14 pm14 cd14 ct14 : Value}
    (a14 : PySem.W.nsIn K mainGlobals "_law_data" = some (some (.ref f14))) (l14 : K.lookup f14 = some ⟨oc14, od14, .func (PySem.W.fnOf "_law_data" "_law_data" (defArgs sData) (defBody sData) (defScope sData) .none kV14 dc14 pm14 an14 cd14 ct14), sl14⟩) (c14 : PySem.W.codeIn K cd14 "_law_data" = true) (k14 : PySem.W.keepIn K (.ref f14) = true)
    {f15 : Addr} {od15 an15 : Option Addr} {sl15 : Array (Option Value)} {oc15 kV15 dc15 pm15 cd15 ct15 : Value}
    (a15 : PySem.W.nsIn K mainGlobals "_law_inside" = some (some (.ref f15))) (l15 : K.lookup f15 = some ⟨oc15, od15, .func (PySem.W.fnOf "_law_inside" "_law_inside" (defArgs sInside) (defBody sInside) (defScope sInside) .none kV15 dc15 pm15 an15 cd15 ct15), sl15⟩) (c15 : PySem.W.codeIn K cd15 "_law_inside" = true) (k15 : PySem.W.keepIn K (.ref f15) = true)
    {f16 : Addr} {od16 an16 : Option Addr} {sl16 : Array (Option Value)} {oc16 kV16 dc16 pm16 cd16 ct16 : Value}
    (a16 : PySem.W.nsIn K mainGlobals "_law_book" = some (some (.ref f16))) (l16 : K.lookup f16 = some ⟨oc16, od16, .func (PySem.W.fnOf "_law_book" "_law_book" (defArgs sBook) (defBody sBook) (defScope sBook) .none kV16 dc16 pm16 an16 cd16 ct16), sl16⟩) (c16 : PySem.W.codeIn K cd16 "_law_book" = true) (k16 : PySem.W.keepIn K (.ref f16) = true)
    {f17 : Addr} {od17 an17 : Option Addr} {sl17 : Array (Option Value)} {oc17 kV17 dc17 pm17 cd17 ct17 : Value}
    (a17 : PySem.W.nsIn K mainGlobals "_law_flat" = some (some (.ref f17))) (l17 : K.lookup f17 = some ⟨oc17, od17, .func (PySem.W.fnOf "_law_flat" "_law_flat" (defArgs sFlat) (defBody sFlat) (defScope sFlat) .none kV17 dc17 pm17 an17 cd17 ct17), sl17⟩) (c17 : PySem.W.codeIn K cd17 "_law_flat" = true) (k17 : PySem.W.keepIn K (.ref f17) = true)
    {f18 : Addr} {od18 an18 : Option Addr} {sl18 : Array (Option Value)} {oc18 kV18 dc18 pm18 cd18 ct18 : Value}
    (a18 : PySem.W.nsIn K mainGlobals "_law_value" = some (some (.ref f18))) (l18 : K.lookup f18 = some ⟨oc18, od18, .func (PySem.W.fnOf "_law_value" "_law_value" (defArgs sValue) (defBody sValue) (defScope sValue) .none kV18 dc18 pm18 an18 cd18 ct18), sl18⟩) (c18 : PySem.W.codeIn K cd18 "_law_value" = true) (k18 : PySem.W.keepIn K (.ref f18) = true)
    {f19 : Addr} {od19 an19 : Option Addr} {sl19 : Array (Option Value)} {oc19 kV19 dc19 pm19 cd19 ct19 : Value}
    (a19 : PySem.W.nsIn K mainGlobals "_law_spoilt" = some (some (.ref f19))) (l19 : K.lookup f19 = some ⟨oc19, od19, .func (PySem.W.fnOf "_law_spoilt" "_law_spoilt" (defArgs sSpoilt) (defBody sSpoilt) (defScope sSpoilt) .none kV19 dc19 pm19 an19 cd19 ct19), sl19⟩) (c19 : PySem.W.codeIn K cd19 "_law_spoilt" = true) (k19 : PySem.W.keepIn K (.ref f19) = true)
    {f20 : Addr} {od20 an20 : Option Addr} {sl20 : Array (Option Value)} {oc20 kV20 dc20 pm20 cd20 ct20 : Value}
    (a20 : PySem.W.nsIn K mainGlobals "_law_all_are" = some (some (.ref f20))) (l20 : K.lookup f20 = some ⟨oc20, od20, .func (PySem.W.fnOf "_law_all_are" "_law_all_are" (defArgs sAllAre) (defBody sAllAre) (defScope sAllAre) .none kV20 dc20 pm20 an20 cd20 ct20), sl20⟩) (c20 : PySem.W.codeIn K cd20 "_law_all_are" = true) (k20 : PySem.W.keepIn K (.ref f20) = true)
    {f21 : Addr} {od21 an21 : Option Addr} {sl21 : Array (Option Value)} {oc21 kV21 dc21 pm21 cd21 ct21 : Value}
    (a21 : PySem.W.nsIn K mainGlobals "_law_is_value" = some (some (.ref f21))) (l21 : K.lookup f21 = some ⟨oc21, od21, .func (PySem.W.fnOf "_law_is_value" "_law_is_value" (defArgs sLIsVal) (defBody sLIsVal) (defScope sLIsVal) .none kV21 dc21 pm21 an21 cd21 ct21), sl21⟩) (c21 : PySem.W.codeIn K cd21 "_law_is_value" = true) (k21 : PySem.W.keepIn K (.ref f21) = true)
    {f22 : Addr} {od22 an22 : Option Addr} {sl22 : Array (Option Value)} {oc22 kV22 dc22 pm22 cd22 ct22 : Value}
    (a22 : PySem.W.nsIn K mainGlobals "_law_finite" = some (some (.ref f22))) (l22 : K.lookup f22 = some ⟨oc22, od22, .func (PySem.W.fnOf "_law_finite" "_law_finite" (defArgs sFinite) (defBody sFinite) (defScope sFinite) .none kV22 dc22 pm22 an22 cd22 ct22), sl22⟩) (c22 : PySem.W.codeIn K cd22 "_law_finite" = true) (k22 : PySem.W.keepIn K (.ref f22) = true)
    {f23 : Addr} {od23 an23 : Option Addr} {sl23 : Array (Option Value)} {oc23 kV23 dc23 pm23 cd23 ct23 : Value}
    (a23 : PySem.W.nsIn K mainGlobals "_law_places_right" = some (some (.ref f23))) (l23 : K.lookup f23 = some ⟨oc23, od23, .func (PySem.W.fnOf "_law_places_right" "_law_places_right" (defArgs sPlaces) (defBody sPlaces) (defScope sPlaces) .none kV23 dc23 pm23 an23 cd23 ct23), sl23⟩) (c23 : PySem.W.codeIn K cd23 "_law_places_right" = true) (k23 : PySem.W.keepIn K (.ref f23) = true)
    {f24 : Addr} {od24 an24 : Option Addr} {sl24 : Array (Option Value)} {oc24 kV24 dc24 pm24 cd24 ct24 : Value}
    (a24 : PySem.W.nsIn K mainGlobals "law" = some (some (.ref f24))) (l24 : K.lookup f24 = some ⟨oc24, od24, .func (PySem.W.fnOf "law" "law" (defArgs sLaw) (defBody sLaw) (defScope sLaw) .none kV24 dc24 pm24 an24 cd24 ct24), sl24⟩) (c24 : PySem.W.codeIn K cd24 "law" = true) (k24 : PySem.W.keepIn K (.ref f24) = true)
    (z_len : PySem.W.nsIn K mainGlobals "len" = some none)
    (z_isinstance : PySem.W.nsIn K mainGlobals "isinstance" = some none)
    (z_tuple : PySem.W.nsIn K mainGlobals "tuple" = some none)
    (z_int : PySem.W.nsIn K mainGlobals "int" = some none)
    (z_bool : PySem.W.nsIn K mainGlobals "bool" = some none)
    (z_str : PySem.W.nsIn K mainGlobals "str" = some none)
    (z_zip : PySem.W.nsIn K mainGlobals "zip" = some none)
    (z_all : PySem.W.nsIn K mainGlobals "all" = some none)
    (z_sum : PySem.W.nsIn K mainGlobals "sum" = some none)
    (z_max : PySem.W.nsIn K mainGlobals "max" = some none)
    (z_abs : PySem.W.nsIn K mainGlobals "abs" = some none)
    (z_range : PySem.W.nsIn K mainGlobals "range" = some none)
    {es : Array DictEntry} {ne : Nat} {tW t1 t2 t3 t4 t5 t6 : Tok} (aW : PySem.W.nsIn K mainGlobals "WORD" = some (some (.int 4294967296 tW))) (aS : PySem.W.nsIn K mainGlobals "SIZES" = some (some (.ref dS)))
    (aL : K.lookup dS = some ⟨.type "dict", none, .dict es ne, #[]⟩) (kl : PySem.W.KeysLit w.params es.toList) (lo : (dS == sysModules) = false)
    (s1 : PySem.W.nsIn K dS "int" = some (some (.int 1 t1))) (s2 : PySem.W.nsIn K dS "bool" = some (some (.int 1 t2))) (s3 : PySem.W.nsIn K dS "box" = some (some (.int 1 t3))) (s4 : PySem.W.nsIn K dS "ref" = some (some (.int 1 t4))) (s5 : PySem.W.nsIn K dS "mut" = some (some (.int 1 t5)))
    (s6 : PySem.W.nsIn K dS "vec" = some (some (.int 3 t6))) (s7 : PySem.W.nsIn K dS "record" = some none) (s8 : PySem.W.nsIn K dS "variant" = some none) :
    ∃ fd : FuncData, (∀ (s : Shared) (v : Value), BindsTo s fd ⟨[v], []⟩ [("_law_script", v)]) ∧ ∀ base : Heap, K.In base → base.Ns mainGlobals mg → FnOk l.prog w K mg base CX0 79 fa fd ["_law_script"] (spLaw K) := by
  have e := hfa.symm.trans (PySem.W.mg_of X G a24)
  cases e
  have F1 := fun_mk (st := sNumber) l1 c1 k1
  have D1 : Df K mg "is_number" sNumber ["thing", "many"] _ _ := ⟨F1, F1.binds (ps := ["thing", "many"]) (fun _ _ _ _ _ _ us hl => match us, hl with | [_, _], _ => rfl), PySem.W.mg_of X G a1⟩
  have F2 := fun_mk (st := sHasWord) l2 c2 k2
  have D2 : Df K mg "has_word" sHasWord ["thing"] _ _ := ⟨F2, F2.binds (ps := ["thing"]) (fun _ _ _ _ _ _ us hl => match us, hl with | [_], _ => rfl), PySem.W.mg_of X G a2⟩
  have F3 := fun_mk (st := sNamed) l3 c3 k3
  have D3 : Df K mg "named_size" sNamed pSz _ _ := ⟨F3, F3.binds (ps := pSz) (fun _ _ _ _ _ _ us hl => match us, hl with | [_, _, _], _ => rfl), PySem.W.mg_of X G a3⟩
  have F4 := fun_mk (st := sFlatSize) l4 c4 k4
  have D4 : Df K mg "flat_size" sFlatSize pSz _ _ := ⟨F4, F4.binds (ps := pSz) (fun _ _ _ _ _ _ us hl => match us, hl with | [_, _, _], _ => rfl), PySem.W.mg_of X G a4⟩
  have F5 := fun_mk (st := sSumSizes) l5 c5 k5
  have D5 : Df K mg "sum_of_sizes" sSumSizes pSums _ _ := ⟨F5, F5.binds (ps := pSums) (fun _ _ _ _ _ _ us hl => match us, hl with | [_, _, _], _ => rfl), PySem.W.mg_of X G a5⟩
  have F6 := fun_mk (st := sSizeOf) l6 c6 k6
  have D6 : Df K mg "size_of" sSizeOf ["book", "kind"] _ _ := ⟨F6, F6.binds (ps := ["book", "kind"]) (fun _ _ _ _ _ _ us hl => match us, hl with | [_, _], _ => rfl), PySem.W.mg_of X G a6⟩
  have F7 := fun_mk (st := sField) l7 c7 k7
  have D7 : Df K mg "field_place" sField ["book", "n", "i"] _ _ := ⟨F7, F7.binds (ps := ["book", "n", "i"]) (fun _ _ _ _ _ _ us hl => match us, hl with | [_, _, _], _ => rfl), PySem.W.mg_of X G a7⟩
  have F8 := fun_mk (st := sPart) l8 c8 k8
  have D8 : Df K mg "part_place" sPart ["book", "n", "tag", "i"] _ _ := ⟨F8, F8.binds (ps := ["book", "n", "tag", "i"]) (fun _ _ _ _ _ _ us hl => match us, hl with | [_, _, _, _], _ => rfl), PySem.W.mg_of X G a8⟩
  have F9 := fun_mk (st := sAreVals) l9 c9 k9
  have D9 : Df K mg "are_values" sAreVals pAre _ _ := ⟨F9, F9.binds (ps := pAre) (fun _ _ _ _ _ _ us hl => match us, hl with | [_, _, _], _ => rfl), PySem.W.mg_of X G a9⟩
  have F10 := fun_mk (st := sIsVal) l10 c10 k10
  have D10 : Df K mg "is_value" sIsVal pIs _ _ := ⟨F10, F10.binds (ps := pIs) (fun _ _ _ _ _ _ us hl => match us, hl with | [_, _, _], _ => rfl), PySem.W.mg_of X G a10⟩
  have F11 := fun_mk (st := sDraws) l11 c11 k11
  have D11 : Df K mg "_law_draws" sDraws ["_law_script", "_law_many"] _ _ := ⟨F11, F11.binds (ps := ["_law_script", "_law_many"]) (fun _ _ _ _ _ _ us hl => match us, hl with | [_, _], _ => rfl), PySem.W.mg_of X G a11⟩
  have F12 := fun_mk (st := sTake) l12 c12 k12
  have D12 : Df K mg "_law_take" sTake ["_law_d"] _ _ := ⟨F12, F12.binds (ps := ["_law_d"]) (fun _ _ _ _ _ _ us hl => match us, hl with | [_], _ => rfl), PySem.W.mg_of X G a12⟩
  have F13 := fun_mk (st := sStart) l13 c13 k13
  have D13 : Df K mg "_law_start" sStart ["_law_script"] _ _ := ⟨F13, F13.binds (ps := ["_law_script"]) (fun _ _ _ _ _ _ us hl => match us, hl with | [_], _ => rfl), PySem.W.mg_of X G a13⟩
  have F14 := fun_mk (st := sData) l14 c14 k14
  have D14 : Df K mg "_law_data" sData pData _ _ := ⟨F14, F14.binds (ps := pData) (fun _ _ _ _ _ _ us hl => match us, hl with | [_, _, _], _ => rfl), PySem.W.mg_of X G a14⟩
  have F15 := fun_mk (st := sInside) l15 c15 k15
  have D15 : Df K mg "_law_inside" sInside pInside _ _ := ⟨F15, F15.binds (ps := pInside) (fun _ _ _ _ _ _ us hl => match us, hl with | [_, _, _], _ => rfl), PySem.W.mg_of X G a15⟩
  have F16 := fun_mk (st := sBook) l16 c16 k16
  have D16 : Df K mg "_law_book" sBook ["_law_d"] _ _ := ⟨F16, F16.binds (ps := ["_law_d"]) (fun _ _ _ _ _ _ us hl => match us, hl with | [_], _ => rfl), PySem.W.mg_of X G a16⟩
  have F17 := fun_mk (st := sFlat) l17 c17 k17
  have D17 : Df K mg "_law_flat" sFlat ["_law_book_here", "_law_kind"] _ _ := ⟨F17, F17.binds (ps := ["_law_book_here", "_law_kind"]) (fun _ _ _ _ _ _ us hl => match us, hl with | [_, _], _ => rfl), PySem.W.mg_of X G a17⟩
  have F18 := fun_mk (st := sValue) l18 c18 k18
  have D18 : Df K mg "_law_value" sValue pVal _ _ := ⟨F18, F18.binds (ps := pVal) (fun _ _ _ _ _ _ us hl => match us, hl with | [_, _, _, _], _ => rfl), PySem.W.mg_of X G a18⟩
  have F19 := fun_mk (st := sSpoilt) l19 c19 k19
  have D19 : Df K mg "_law_spoilt" sSpoilt pSp _ _ := ⟨F19, F19.binds (ps := pSp) (fun _ _ _ _ _ _ us hl => match us, hl with | [_, _, _], _ => rfl), PySem.W.mg_of X G a19⟩
  have F20 := fun_mk (st := sAllAre) l20 c20 k20
  have D20 : Df K mg "_law_all_are" sAllAre pLAre _ _ := ⟨F20, F20.binds (ps := pLAre) (fun _ _ _ _ _ _ us hl => match us, hl with | [_, _, _], _ => rfl), PySem.W.mg_of X G a20⟩
  have F21 := fun_mk (st := sLIsVal) l21 c21 k21
  have D21 : Df K mg "_law_is_value" sLIsVal pLIs _ _ := ⟨F21, F21.binds (ps := pLIs) (fun _ _ _ _ _ _ us hl => match us, hl with | [_, _, _], _ => rfl), PySem.W.mg_of X G a21⟩
  have F22 := fun_mk (st := sFinite) l22 c22 k22
  have D22 : Df K mg "_law_finite" sFinite pFin _ _ := ⟨F22, F22.binds (ps := pFin) (fun _ _ _ _ _ _ us hl => match us, hl with | [_, _, _], _ => rfl), PySem.W.mg_of X G a22⟩
  have F23 := fun_mk (st := sPlaces) l23 c23 k23
  have D23 : Df K mg "_law_places_right" sPlaces ["_law_book_here"] _ _ := ⟨F23, F23.binds (ps := ["_law_book_here"]) (fun _ _ _ _ _ _ us hl => match us, hl with | [_], _ => rfl), PySem.W.mg_of X G a23⟩
  have F24 := fun_mk (st := sLaw) l24 c24 k24
  have D24 : Df K mg "law" sLaw ["_law_script"] _ _ := ⟨F24, F24.binds (ps := ["_law_script"]) (fun _ _ _ _ _ _ us hl => match us, hl with | [_], _ => rfl), PySem.W.mg_of X G a24⟩
  have N : Nm K w mg := ⟨PySem.W.mg_none_of X G z_len, PySem.W.mg_none_of X G z_isinstance, PySem.W.mg_none_of X G z_tuple, PySem.W.mg_none_of X G z_int, PySem.W.mg_none_of X G z_bool, PySem.W.mg_none_of X G z_str, PySem.W.mg_none_of X G z_zip, PySem.W.mg_none_of X G z_all, PySem.W.mg_none_of X G z_sum, PySem.W.mg_none_of X G z_max, PySem.W.mg_none_of X G z_abs, PySem.W.mg_none_of X G z_range,
    ⟨_, PySem.W.mg_of X G aW⟩,
    ⟨dS, es, ne, PySem.W.mg_of X G aS, ⟨aL, kl, lo⟩, (fun z hz => by
      rcases hz with rfl | rfl | rfl | rfl | rfl
      · exact ⟨_, s1⟩
      · exact ⟨_, s2⟩
      · exact ⟨_, s3⟩
      · exact ⟨_, s4⟩
      · exact ⟨_, s5⟩), ⟨_, s6⟩, s7, s8⟩⟩
  refine ⟨PySem.W.fnOf "law" "law" (defArgs sLaw) (defBody sLaw) (defScope sLaw) .none kV24 dc24 pm24 an24 cd24 ct24, fun s v => .of_eq rfl, fun base _ _ => ?_⟩
  have Gin : FnOk l.prog w K mg base CX0 5 f15 _ pInside (fun vs H Q E => ∃ i : Ix3, spIn3 i vs H Q E) := FnOk.any fun i => ok_inside (k := 4) (by decide) D15 N D12 D14 (all_data D14 N D12 2)
  have Gsz := fun (i : BO) => all_sums (P := l.prog) (base := base) i.2 D3 D4 D5 N 6
  exact ok_law (k := 78) (by decide) D24 N D12
    D13 ((ok_start D13 D11 (ok_draws D11 N)).mono (by decide))
    D16 ((ok_book (k := 5) (by decide) D16 N D12 D15 Gin).mono (by decide))
    D23 ((FnOk.any fun i : BO => ok_places i.2 (k := 22) D23 N D17 ((all_flat i.2 D17 N 6).mono (by decide)) D7 (ok_field i.2 D7 D5 (Gsz i).2) D8 (ok_part i.2 D8 D5 (Gsz i).2)).mono (by decide))
    D14 ((FnOk.any fun i : Nat × Nat => all_data (a := i.1) (b := i.2) D14 N D12 3).mono (by decide))
    D6 ((FnOk.any fun i : BO => ok_sizeOf D6 D4 (Gsz i).1).mono (by decide))
    D17 ((FnOk.any fun i : BO => all_flat i.2 D17 N 6).mono (by decide))
    D22 ((FnOk.any fun i : BO => all_fin i.2 D22 N 34).mono (by decide))
    D18 ((FnOk.any fun i : BO => all_value i.2 D18 N D12 D22 38).mono (by decide))
    D10 ((FnOk.any fun i : BO => (all_isVal i.2 (W := 100) (by decide) D10 N D9 D1 D2 38).1).mono (by decide))
    D19 ((all_spoilt D19 N D12 4).mono (by decide))
    D21 ((FnOk.any fun i : BO => (all_lIs i.2 (W := 100) (by decide) D21 N D20 38 (by decide)).1).mono (by decide))
end My
open PySem PySem.W PyProof.Rows
set_option maxRecDepth 100000 in
set_option maxHeartbeats 0 in
theorem PySem.Challenge.cw_oneowner_k41_sizes_and_values_holds : PySem.Challenge.rw_oneowner_k41_sizes_and_values.Holds := by
  w_on; o_law; k_head; (case hw => w_witness2)
  k_fill
  refine L2.walk_of (l := PySem.Challenge.rw_oneowner_k41_sizes_and_values) (n := 63) (k := 79) (x := "_law_script") (CX := fun _ => L2.CX0) (sp := fun w => My.spLaw _) rfl (by decide) rfl ⟨rfl, by decide, by decide⟩ (fun w h Y => PySem.W.kIn_of Y) ?F (fun _ _ a ns hl _ hS => ⟨a, ns, rfl, hS, hl, fun _ => rfl⟩) (fun _ _ _ _ _ h => h)
  case F =>
    intro w mg fa h KX G hmg
    refine' My.all_mk KX G hmg ?a1 ?l1 ?c1 ?k1 ?a2 ?l2 ?c2 ?k2 ?a3 ?l3 ?c3 ?k3 ?a4 ?l4 ?c4 ?k4 ?a5 ?l5 ?c5 ?k5 ?a6 ?l6 ?c6 ?k6 ?a7 ?l7 ?c7 ?k7 ?a8 ?l8 ?c8 ?k8 ?a9 ?l9 ?c9 ?k9 ?a10 ?l10 ?c10 ?k10 ?a11 ?l11 ?c11 ?k11 ?a12 ?l12 ?c12 ?k12 ?a13 ?l13 ?c13 ?k13 ?a14 ?l14 ?c14 ?k14 ?a15 ?l15 ?c15 ?k15 ?a16 ?l16 ?c16 ?k16 ?a17 ?l17 ?c17 ?k17 ?a18 ?l18 ?c18 ?k18 ?a19 ?l19 ?c19 ?k19 ?a20 ?l20 ?c20 ?k20 ?a21 ?l21 ?c21 ?k21 ?a22 ?l22 ?c22 ?k22 ?a23 ?l23 ?c23 ?k23 ?a24 ?l24 ?c24 ?k24 ?z_len ?z_isinstance ?z_tuple ?z_int ?z_bool ?z_str ?z_zip ?z_all ?z_sum ?z_max ?z_abs ?z_range ?aW ?aS ?aL ?kl ?lo ?s1 ?s2 ?s3 ?s4 ?s5 ?s6 ?s7 ?s8
    (case a1 => k_is)
    (case l1 => k_is)
    (case c1 => k_is)
    (case k1 => k_is)
    (case a2 => k_is)
    (case l2 => k_is)
    (case c2 => k_is)
    (case k2 => k_is)
    (case a3 => k_is)
    (case l3 => k_is)
    (case c3 => k_is)
    (case k3 => k_is)
    (case a4 => k_is)
    (case l4 => k_is)
    (case c4 => k_is)
    (case k4 => k_is)
    (case a5 => k_is)
    (case l5 => k_is)
    (case c5 => k_is)
    (case k5 => k_is)
    (case a6 => k_is)
    (case l6 => k_is)
    (case c6 => k_is)
    (case k6 => k_is)
    (case a7 => k_is)
    (case l7 => k_is)
    (case c7 => k_is)
    (case k7 => k_is)
    (case a8 => k_is)
    (case l8 => k_is)
    (case c8 => k_is)
    (case k8 => k_is)
    (case a9 => k_is)
    (case l9 => k_is)
    (case c9 => k_is)
    (case k9 => k_is)
    (case a10 => k_is)
    (case l10 => k_is)
    (case c10 => k_is)
    (case k10 => k_is)
    (case a11 => k_is)
    (case l11 => k_is)
    (case c11 => k_is)
    (case k11 => k_is)
    (case a12 => k_is)
    (case l12 => k_is)
    (case c12 => k_is)
    (case k12 => k_is)
    (case a13 => k_is)
    (case l13 => k_is)
    (case c13 => k_is)
    (case k13 => k_is)
    (case a14 => k_is)
    (case l14 => k_is)
    (case c14 => k_is)
    (case k14 => k_is)
    (case a15 => k_is)
    (case l15 => k_is)
    (case c15 => k_is)
    (case k15 => k_is)
    (case a16 => k_is)
    (case l16 => k_is)
    (case c16 => k_is)
    (case k16 => k_is)
    (case a17 => k_is)
    (case l17 => k_is)
    (case c17 => k_is)
    (case k17 => k_is)
    (case a18 => k_is)
    (case l18 => k_is)
    (case c18 => k_is)
    (case k18 => k_is)
    (case a19 => k_is)
    (case l19 => k_is)
    (case c19 => k_is)
    (case k19 => k_is)
    (case a20 => k_is)
    (case l20 => k_is)
    (case c20 => k_is)
    (case k20 => k_is)
    (case a21 => k_is)
    (case l21 => k_is)
    (case c21 => k_is)
    (case k21 => k_is)
    (case a22 => k_is)
    (case l22 => k_is)
    (case c22 => k_is)
    (case k22 => k_is)
    (case a23 => k_is)
    (case l23 => k_is)
    (case c23 => k_is)
    (case k23 => k_is)
    (case a24 => k_is)
    (case l24 => k_is)
    (case c24 => k_is)
    (case k24 => k_is)
    (case z_len => k_is)
    (case z_isinstance => k_is)
    (case z_tuple => k_is)
    (case z_int => k_is)
    (case z_bool => k_is)
    (case z_str => k_is)
    (case z_zip => k_is)
    (case z_all => k_is)
    (case z_sum => k_is)
    (case z_max => k_is)
    (case z_abs => k_is)
    (case z_range => k_is)
    (case aW => k_is)
    (case aS => k_is)
    (case aL => k_is)
    (case kl => exact ⟨⟨_, _, rfl, rfl⟩, ⟨_, _, rfl, rfl⟩, ⟨_, _, rfl, rfl⟩, ⟨_, _, rfl, rfl⟩, ⟨_, _, rfl, rfl⟩, ⟨_, _, rfl, rfl⟩, trivial⟩)
    (case lo => first | k_is | decide | rfl)
    (case s1 => k_is)
    (case s2 => k_is)
    (case s3 => k_is)
    (case s4 => k_is)
    (case s5 => k_is)
    (case s6 => k_is)
    (case s7 => k_is)
    (case s8 => k_is)
#print axioms PySem.Challenge.cw_oneowner_k41_sizes_and_values_holds
