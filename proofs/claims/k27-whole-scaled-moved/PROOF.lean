import PyProof.Rows.All
import Wide.All
import OpenK.AllK
import Wide.FinOn
import HandS.Base
import HandS.Call
import HandS.List
import HandS.Iter
import HandS.Zip
import HandS.ForMost
import HandS.Evl
import HandS.Walk
import HandS.TupSets
import HandS.Conv
import PySem.Challenge.RW_tokenmoor_k27_whole_scaled_and_moved
set_option Elab.async false
set_option linter.all false
set_option maxRecDepth 100000
set_option maxHeartbeats 16000000
/-! The plain mathematics of the rings: least stands, sources, rings, first rows; what a change of scale or order does to them. -/
namespace Tm
abbrev St := List Int
abbrev Mv := List Int × List Int

def covers : List Int → List Int → Bool
  | h :: hs, n :: ns => if h < n then false else covers hs ns
  | _, _ => true
def lifted (s : St) (b : List St) : Bool := b.any (covers s)
def rowLe : List Int → List Int → Bool
  | [], _ => true
  | _ :: _, [] => false
  | x :: xs, y :: ys => if x < y then true else if y < x then false else rowLe xs ys
def ins (x : St) : List St → List St
  | [] => [x]
  | y :: ys => if rowLe x y then x :: y :: ys else y :: ins x ys
def srt : List St → List St
  | [] => []
  | x :: xs => ins x (srt xs)
def addLeast (found : List St) (s : St) : List St := if lifted s found then found else (found.filter fun o => !covers o s) ++ [s]
def leastU (xs : List St) : List St := xs.foldl addLeast []
def least (xs : List St) : List St := srt (leastU xs)
def source : List Int → List Int → List Int → List Int
  | l :: ls, g :: gs, d :: ds => (l + (if d - g > 0 then d - g else 0)) :: source ls gs ds
  | _, _, _ => []
def sourceM (s : St) (m : Mv) : St := source m.1 m.2 s
def sources (ms : List Mv) (ss : List St) : List St := ss.flatMap fun s => ms.map (sourceM s)
def stepBack (ms : List Mv) (b : List St) : List St := least (least b ++ sources ms (least b))
def subs : List Int → List Int → List Int
  | l :: ls, g :: gs => (g - l) :: subs ls gs
  | _, _ => []
def adds : List Int → List Int → List Int
  | l :: ls, g :: gs => (l + g) :: adds ls gs
  | _, _ => []
def change (m : Mv) : List Int := subs m.1 m.2
def able (s : St) (m : Mv) : Bool := covers s m.1
def after (s : St) (m : Mv) : St := adds s (change m)
inductive Wd | row | opn | bas
  deriving DecidableEq
def lift? (bg : Option St) (ring : List St) : Bool := match bg with | some b => lifted b ring | none => false
def ringsF (ms : List Mv) (bg : Option St) (most : Nat) : Nat → List (List St) → List St → Wd × List (List St)
  | n, pre, ring =>
    if lift? bg ring then (.row, pre ++ [ring])
    else if ring.length > most then (.opn, pre ++ [ring])
    else if stepBack ms ring = ring then (.bas, pre ++ [ring])
    else match n with
      | 0 => (.opn, pre ++ [ring])
      | n + 1 => ringsF ms bg most n (pre ++ [ring]) (stepBack ms ring)
def hits (s : St) (r : List St) (m : Mv) : Bool := able s m && lifted (after s m) r
def pick (ms : List Mv) (s : St) (r : List St) : Nat := ms.findIdx (hits s r)
def firstRow (ms : List Mv) : St → List (List St) → List Nat
  | _, [] => []
  | s, r :: rs => pick ms s r :: firstRow ms (after s (ms.getD (pick ms s r) ([], []))) rs
inductive Ans | row (r : List Nat) | opn (k : Nat) | wall (b : List St)
def rings (ms : List Mv) (bg : Option St) (t : St) (most : Nat) : Wd × List (List St) := ringsF ms bg most most [] (least [t])
def answer (ms : List Mv) (bg : St) : Wd × List (List St) → Ans
  | (.row, rs) => .row (firstRow ms bg rs.dropLast.reverse)
  | (.opn, rs) => .opn (rs.length - 1)
  | (.bas, rs) => .wall (rs.getLastD [])
def cover (ms : List Mv) (bg t : St) (most : Nat) : Ans := answer ms bg (rings ms (some bg) t most)
def enough (ms : List Mv) (t : St) (most : Nat) : Ans := answer ms [] (rings ms none t most)
def tell : Ans → Option Bool
  | .row _ => some false
  | .opn _ => none
  | .wall _ => some true
def never (ms : List Mv) (bg : St) (most : Nat) : List (Option Bool) := ms.map fun m => tell (cover ms bg m.1 most)

/-! ### covers -/
theorem covers_refl : ∀ s : St, covers s s = true
  | [] => rfl
  | x :: xs => by
    show (if x < x then false else covers xs xs) = true
    rw [if_neg (by omega), covers_refl xs]
theorem covers_cons {x y : Int} {xs ys : St} : covers (x :: xs) (y :: ys) = true ↔ y ≤ x ∧ covers xs ys = true := by
  show (if x < y then false else covers xs ys) = true ↔ _
  by_cases h : x < y
  · rw [if_pos h]
    constructor
    · intro q; cases q
    · intro q; omega
  · rw [if_neg h]
    constructor
    · intro q; exact ⟨by omega, q⟩
    · intro q; exact q.2
theorem covers_trans : ∀ {a b c : St}, a.length = b.length → b.length = c.length → covers a b = true → covers b c = true → covers a c = true
  | [], [], [], _, _, _, _ => rfl
  | x :: a, y :: b, z :: c, h1, h2, q1, q2 => by
    rw [covers_cons] at q1 q2 ⊢
    have e1 : a.length = b.length := by simpa using h1
    have e2 : b.length = c.length := by simpa using h2
    exact ⟨by omega, covers_trans e1 e2 q1.2 q2.2⟩
  | [], _ :: _, _, h, _, _, _ => by simp at h
  | _ :: _, [], _, h, _, _, _ => by simp at h
  | [], [], _ :: _, _, h, _, _ => by simp at h
  | _ :: _, _ :: _, [], _, h, _, _ => by simp at h
theorem covers_anti : ∀ {a b : St}, a.length = b.length → covers a b = true → covers b a = true → a = b
  | [], [], _, _, _ => rfl
  | x :: a, y :: b, h, q1, q2 => by
    rw [covers_cons] at q1 q2
    have e : a.length = b.length := by simpa using h
    rw [covers_anti e q1.2 q2.2, show x = y by omega]
  | [], _ :: _, h, _, _ => by simp at h
  | _ :: _, [], h, _, _ => by simp at h

/-! ### the order of tuples -/
theorem rowLe_total : ∀ a b : St, (rowLe a b || rowLe b a) = true
  | [], b => by simp [rowLe]
  | x :: a, [] => by simp [rowLe]
  | x :: a, y :: b => by
    have := rowLe_total a b
    simp only [rowLe]
    by_cases h : x < y
    · rw [if_pos h]; rfl
    · rw [if_neg h]
      by_cases h2 : y < x
      · rw [if_pos h2, if_pos h2]; rfl
      · rw [if_neg h2, if_neg h2, if_neg h]; exact this
theorem rowLe_anti : ∀ {a b : St}, rowLe a b = true → rowLe b a = true → a = b
  | [], [], _, _ => rfl
  | [], _ :: _, _, h => by simp [rowLe] at h
  | _ :: _, [], h, _ => by simp [rowLe] at h
  | x :: a, y :: b, h1, h2 => by
    simp only [rowLe] at h1 h2
    by_cases h : x < y
    · rw [if_neg (by omega), if_pos h] at h2; cases h2
    · rw [if_neg h] at h1
      by_cases h' : y < x
      · rw [if_pos h'] at h1; cases h1
      · rw [if_neg h'] at h1
        rw [if_neg h', if_neg h] at h2
        rw [rowLe_anti h1 h2, show x = y by omega]
theorem rowLe_trans : ∀ {a b c : St}, rowLe a b = true → rowLe b c = true → rowLe a c = true
  | [], _, _, _, _ => by simp [rowLe]
  | _ :: _, [], _, h, _ => by simp [rowLe] at h
  | _ :: _, _ :: _, [], _, h => by simp [rowLe] at h
  | x :: a, y :: b, z :: c, h1, h2 => by
    simp only [rowLe] at h1 h2 ⊢
    by_cases h : x < y
    · by_cases h' : z < y
      · rw [if_neg (by omega), if_pos h'] at h2; cases h2
      · rw [if_pos (by omega)]
    · rw [if_neg h] at h1
      by_cases h' : y < x
      · rw [if_pos h'] at h1; cases h1
      · rw [if_neg h'] at h1
        have e : x = y := by omega
        subst e
        by_cases g : x < z
        · rw [if_pos g]
        · rw [if_neg g] at h2 ⊢
          by_cases g' : z < x
          · rw [if_pos g'] at h2; cases h2
          · rw [if_neg g'] at h2 ⊢
            exact rowLe_trans h1 h2

/-! ### sorting -/
theorem ins_perm (x : St) : ∀ ys : List St, (ins x ys).Perm (x :: ys)
  | [] => .refl _
  | y :: ys => by
    simp only [ins]
    split
    · exact .refl _
    · exact (List.Perm.cons y (ins_perm x ys)).trans (List.Perm.swap x y ys)
theorem srt_perm : ∀ xs : List St, (srt xs).Perm xs
  | [] => .refl _
  | x :: xs => (ins_perm x (srt xs)).trans (.cons x (srt_perm xs))
abbrev Up (xs : List St) : Prop := xs.Pairwise fun a b => rowLe a b = true
theorem ins_up {x : St} : ∀ {ys : List St}, Up ys → Up (ins x ys)
  | [], _ => by simp [ins, Up]
  | y :: ys, h => by
    simp only [ins]
    have h' := List.pairwise_cons.mp h
    split
    · rename_i hxy
      refine List.pairwise_cons.mpr ⟨fun z hz => ?_, h⟩
      rcases List.mem_cons.mp hz with rfl | hz
      · exact hxy
      · exact rowLe_trans hxy (h'.1 z hz)
    · rename_i hxy
      have hyx : rowLe y x = true := by
        have := rowLe_total x y
        cases q : rowLe x y with
        | true => exact absurd q hxy
        | false => rw [q] at this; simpa using this
      refine List.pairwise_cons.mpr ⟨fun z hz => ?_, ins_up h'.2⟩
      rcases List.mem_cons.mp ((ins_perm x ys).mem_iff.mp hz) with rfl | hz
      · exact hyx
      · exact h'.1 z hz
theorem srt_up : ∀ xs : List St, Up (srt xs)
  | [] => List.Pairwise.nil
  | x :: xs => ins_up (srt_up xs)
theorem up_unique : ∀ {xs ys : List St}, xs.Perm ys → Up xs → Up ys → xs = ys
  | [], ys, p, _, _ => by rw [List.nil_perm.mp p]
  | x :: xs, [], p, _, _ => by
    have := p.length_eq
    simp at this
  | x :: xs, y :: ys, p, hx, hy => by
    have hx' := List.pairwise_cons.mp hx
    have hy' := List.pairwise_cons.mp hy
    have e : x = y := by
      have m1 : x ∈ y :: ys := p.mem_iff.mp List.mem_cons_self
      have m2 : y ∈ x :: xs := p.mem_iff.mpr List.mem_cons_self
      rcases List.mem_cons.mp m1 with q | q
      · exact q
      · rcases List.mem_cons.mp m2 with r | r
        · exact r.symm
        · exact rowLe_anti (hx'.1 y r) (hy'.1 x q)
    subst e
    rw [up_unique (List.Perm.cons_inv p) hx'.2 hy'.2]
theorem srt_eq {xs ys : List St} (p : ys.Perm xs) (h : Up ys) : ys = srt xs := up_unique (p.trans (srt_perm xs).symm) h (srt_up xs)
theorem srt_congr {xs ys : List St} (p : xs.Perm ys) : srt xs = srt ys := srt_eq ((srt_perm xs).trans p) (srt_up xs)
theorem srt_id {xs : List St} (h : Up xs) : srt xs = xs := (srt_eq (.refl _) h).symm
theorem mem_srt {xs : List St} {x : St} : x ∈ srt xs ↔ x ∈ xs := (srt_perm xs).mem_iff
theorem srt_length (xs : List St) : (srt xs).length = xs.length := (srt_perm xs).length_eq

/-! ### lifted -/
theorem lifted_iff {s : St} {b : List St} : lifted s b = true ↔ ∃ x ∈ b, covers s x = true := by
  unfold lifted
  rw [List.any_eq_true]
theorem lifted_congr {s : St} {b b' : List St} (h : ∀ x, x ∈ b ↔ x ∈ b') : lifted s b = lifted s b' := by
  rw [Bool.eq_iff_iff, lifted_iff, lifted_iff]
  constructor
  · rintro ⟨x, m, c⟩; exact ⟨x, (h x).mp m, c⟩
  · rintro ⟨x, m, c⟩; exact ⟨x, (h x).mpr m, c⟩

/-! ### least -/
def Len (d : Nat) (xs : List St) : Prop := ∀ x ∈ xs, x.length = d
def Min (xs : List St) (x : St) : Prop := x ∈ xs ∧ ∀ y ∈ xs, covers x y = true → y = x
structure Fold (d : Nat) (done found : List St) : Prop where
  nodup : found.Nodup
  mem : ∀ x, x ∈ found ↔ Min done x
  cov : ∀ y ∈ done, lifted y found = true
theorem Fold.step {d : Nat} {done found : List St} {s : St} (F : Fold d done found) (hl : Len d (done ++ [s])) : Fold d (done ++ [s]) (addLeast found s) := by
  have ls : s.length = d := hl s (by simp)
  have ld : ∀ x ∈ done, x.length = d := fun x hx => hl x (by simp [hx])
  have lf : ∀ x ∈ found, x.length = d := fun x hx => ld x ((F.mem x).mp hx).1
  unfold addLeast
  by_cases h : lifted s found = true
  · rw [if_pos h]
    obtain ⟨y, my, cy⟩ := lifted_iff.mp h
    have hy := (F.mem y).mp my
    refine ⟨F.nodup, fun x => ⟨fun mx => ?_, fun mx => ?_⟩, fun z hz => ?_⟩
    · have hx := (F.mem x).mp mx
      refine ⟨by simp [hx.1], fun z hz cz => ?_⟩
      rcases List.mem_append.mp hz with hz | hz
      · exact hx.2 z hz cz
      · have ez : z = s := by simpa using hz
        subst ez
        have e1 : y = x := hx.2 y hy.1 (covers_trans (by rw [lf x mx, ls]) (by rw [ls, lf y my]) cz cy)
        subst e1
        exact covers_anti (by rw [ls, lf y my]) cy cz
    · rcases List.mem_append.mp mx.1 with hx | hx
      · exact (F.mem x).mpr ⟨hx, fun z hz => mx.2 z (by simp [hz])⟩
      · have ex : x = s := by simpa using hx
        subst ex
        rw [← mx.2 y (by simp [hy.1]) cy]
        exact my
    · rcases List.mem_append.mp hz with hz | hz
      · exact F.cov z hz
      · have ez : z = s := by simpa using hz
        rw [ez]; exact h
  · rw [if_neg h]
    have nl : ∀ z ∈ found, covers s z = false := fun z hz => by
      cases q : covers s z with
      | false => rfl
      | true => exact absurd (lifted_iff.mpr ⟨z, hz, q⟩) h
    refine ⟨?_, fun x => ⟨fun mx => ?_, fun mx => ?_⟩, fun z hz => ?_⟩
    · refine List.nodup_append.mpr ⟨F.nodup.filter _, by simp, fun a ha b hb e => ?_⟩
      have eb : b = s := by simpa using hb
      have ma := (List.mem_filter.mp ha).1
      have := nl a ma
      rw [e, eb, covers_refl] at this
      cases this
    · rcases List.mem_append.mp mx with mx | mx
      · obtain ⟨m1, m2⟩ := List.mem_filter.mp mx
        have hx := (F.mem x).mp m1
        refine ⟨by simp [hx.1], fun z hz cz => ?_⟩
        rcases List.mem_append.mp hz with hz | hz
        · exact hx.2 z hz cz
        · have ez : z = s := by simpa using hz
          subst ez
          rw [cz] at m2
          cases m2
      · have ex : x = s := by simpa using mx
        subst ex
        refine ⟨by simp, fun z hz cz => ?_⟩
        rcases List.mem_append.mp hz with hz | hz
        · obtain ⟨y, my, cy⟩ := lifted_iff.mp (F.cov z hz)
          have := nl y my
          rw [covers_trans (by rw [ls, ld z hz]) (by rw [ld z hz, lf y my]) cz cy] at this
          cases this
        · simpa using hz
    · rcases List.mem_append.mp mx.1 with hx | hx
      · have mf := (F.mem x).mpr ⟨hx, fun z hz => mx.2 z (by simp [hz])⟩
        refine List.mem_append.mpr (.inl (List.mem_filter.mpr ⟨mf, ?_⟩))
        cases q : covers x s with
        | false => rfl
        | true =>
          have e := mx.2 s (by simp) q
          have := nl x mf
          rw [e, covers_refl] at this
          cases this
      · exact List.mem_append.mpr (.inr hx)
    · rcases List.mem_append.mp hz with hz | hz
      · obtain ⟨y, my, cy⟩ := lifted_iff.mp (F.cov z hz)
        cases q : covers y s with
        | true => exact lifted_iff.mpr ⟨s, by simp, covers_trans (by rw [ld z hz, lf y my]) (by rw [lf y my, ls]) cy q⟩
        | false => exact lifted_iff.mpr ⟨y, List.mem_append.mpr (.inl (List.mem_filter.mpr ⟨my, by rw [q]; rfl⟩)), cy⟩
      · have ez : z = s := by simpa using hz
        subst ez
        exact lifted_iff.mpr ⟨z, by simp, covers_refl z⟩
theorem fold_all {d : Nat} : ∀ (rest done found : List St), Fold d done found → Len d (done ++ rest) → Fold d (done ++ rest) (rest.foldl addLeast found)
  | [], done, found, F, _ => by simpa using F
  | s :: rest, done, found, F, hl => by
    have e : done ++ s :: rest = (done ++ [s]) ++ rest := by simp
    rw [e] at hl ⊢
    exact fold_all rest (done ++ [s]) (addLeast found s) (F.step fun x hx => hl x (List.mem_append.mpr (.inl hx))) hl
theorem leastU_fold {d : Nat} {xs : List St} (hl : Len d xs) : Fold d xs (leastU xs) :=
  fold_all xs [] [] ⟨by simp, fun x => by simp [Min], fun y hy => by simp at hy⟩ (by simpa using hl)
theorem mem_least {d : Nat} {xs : List St} (hl : Len d xs) {x : St} : x ∈ least xs ↔ Min xs x := mem_srt.trans ((leastU_fold hl).mem x)
theorem nodup_least {d : Nat} {xs : List St} (hl : Len d xs) : (least xs).Nodup := (srt_perm _).nodup_iff.mpr (leastU_fold hl).nodup
theorem up_least (xs : List St) : Up (least xs) := srt_up _
theorem least_sub {d : Nat} {xs : List St} (hl : Len d xs) {x : St} (h : x ∈ least xs) : x ∈ xs := ((mem_least hl).mp h).1
theorem len_least {d : Nat} {xs : List St} (hl : Len d xs) : Len d (least xs) := fun x hx => hl x (least_sub hl hx)
theorem cov_least {d : Nat} {xs : List St} (hl : Len d xs) {y : St} (hy : y ∈ xs) : lifted y (least xs) = true := by
  have e : lifted y (least xs) = lifted y (leastU xs) := lifted_congr fun x => mem_srt
  rw [e]
  exact (leastU_fold hl).cov y hy
theorem lifted_trans {d : Nat} {s x : St} {b : List St} (hs : s.length = d) (hx : x.length = d) (hb : Len d b) (h : covers s x = true) (h2 : lifted x b = true) : lifted s b = true := by
  obtain ⟨y, my, cy⟩ := lifted_iff.mp h2
  exact lifted_iff.mpr ⟨y, my, covers_trans (by rw [hs, hx]) (by rw [hx, hb y my]) h cy⟩
theorem lifted_least {d : Nat} {xs : List St} (hl : Len d xs) {s : St} (hs : s.length = d) : lifted s (least xs) = lifted s xs := by
  rw [Bool.eq_iff_iff]
  constructor
  · intro h
    obtain ⟨y, my, cy⟩ := lifted_iff.mp h
    exact lifted_iff.mpr ⟨y, least_sub hl my, cy⟩
  · intro h
    obtain ⟨y, my, cy⟩ := lifted_iff.mp h
    exact lifted_trans hs (hl y my) (len_least hl) cy (cov_least hl my)
theorem leastU_length (xs : List St) : ∀ found : List St, (xs.foldl addLeast found).length ≤ found.length + xs.length := by
  induction xs with
  | nil => intro found; simp
  | cons s xs ih =>
    intro found
    have h1 : (addLeast found s).length ≤ found.length + 1 := by
      unfold addLeast
      split
      · omega
      · rw [List.length_append]
        have := List.length_filter_le (fun o => !covers o s) found
        simp only [List.length_cons, List.length_nil]
        omega
    have := ih (addLeast found s)
    simp only [List.foldl_cons, List.length_cons]
    omega
theorem least_length (xs : List St) : (least xs).length ≤ xs.length := by
  unfold least
  rw [srt_length]
  have := leastU_length xs []
  unfold leastU
  simpa using this
/-- two nodup lists of the same members -/
theorem perm_of_nodup : ∀ {xs ys : List St}, xs.Nodup → ys.Nodup → (∀ x, x ∈ xs ↔ x ∈ ys) → xs.Perm ys := fun {xs ys} h1 h2 h => by
  rw [List.perm_ext_iff_of_nodup h1 h2]
  exact h
theorem least_congr {d : Nat} {xs ys : List St} (hx : Len d xs) (h : ∀ x, x ∈ xs ↔ x ∈ ys) : least xs = least ys := by
  have hy : Len d ys := fun x m => hx x ((h x).mpr m)
  refine up_unique (perm_of_nodup (nodup_least hx) (nodup_least hy) fun x => ?_) (up_least _) (up_least _)
  rw [mem_least hx, mem_least hy]
  unfold Min
  constructor
  · rintro ⟨a, b⟩; exact ⟨(h x).mp a, fun y hy => b y ((h y).mpr hy)⟩
  · rintro ⟨a, b⟩; exact ⟨(h x).mpr a, fun y hy => b y ((h y).mp hy)⟩
theorem least_one (t : St) : least [t] = [t] := rfl

/-! ### sources, steps back -/
theorem source_length : ∀ {l g d : List Int} {n : Nat}, l.length = n → g.length = n → d.length = n → (source l g d).length = n
  | [], [], [], _, h, _, _ => by simpa [source] using h
  | x :: l, y :: g, z :: d, n, h1, h2, h3 => by
    cases n with
    | zero => simp at h1
    | succ n =>
      simp only [source, List.length_cons]
      rw [source_length (n := n) (by simpa using h1) (by simpa using h2) (by simpa using h3)]
  | [], _ :: _, _, _, h1, h2, _ => by simp at h1 h2; omega
  | _ :: _, [], _, _, h1, h2, _ => by simp at h1 h2; omega
  | [], [], _ :: _, _, h1, _, h3 => by simp at h1 h3; omega
  | _ :: _, _ :: _, [], _, h1, _, h3 => by simp at h1 h3; omega
theorem subs_length : ∀ {l g : List Int}, l.length = g.length → (subs l g).length = l.length
  | [], [], _ => rfl
  | x :: l, y :: g, h => by
    simp only [subs, List.length_cons]
    rw [subs_length (by simpa using h)]
  | [], _ :: _, h => by simp at h
  | _ :: _, [], h => by simp at h
theorem adds_length : ∀ {l g : List Int}, l.length = g.length → (adds l g).length = l.length
  | [], [], _ => rfl
  | x :: l, y :: g, h => by
    simp only [adds, List.length_cons]
    rw [adds_length (by simpa using h)]
  | [], _ :: _, h => by simp at h
  | _ :: _, [], h => by simp at h
/-- all moves of d places -/
def LenM (d : Nat) (ms : List Mv) : Prop := ∀ m ∈ ms, m.1.length = d ∧ m.2.length = d
theorem after_length {d : Nat} {s : St} {m : Mv} (hs : s.length = d) (h : m.1.length = d ∧ m.2.length = d) : (after s m).length = d := by
  unfold after change
  have e := subs_length (l := m.1) (g := m.2) (by rw [h.1, h.2])
  rw [adds_length (by rw [e, hs, h.1]), hs]
theorem mem_sources {ms : List Mv} {ss : List St} {x : St} : x ∈ sources ms ss ↔ ∃ s ∈ ss, ∃ m ∈ ms, x = sourceM s m := by
  unfold sources
  rw [List.mem_flatMap]
  constructor
  · rintro ⟨s, hs, hx⟩
    obtain ⟨m, hm, e⟩ := List.mem_map.mp hx
    exact ⟨s, hs, m, hm, e.symm⟩
  · rintro ⟨s, hs, m, hm, e⟩
    exact ⟨s, hs, List.mem_map.mpr ⟨m, hm, e.symm⟩⟩
theorem sourceM_length {d : Nat} {s : St} {m : Mv} (hs : s.length = d) (h : m.1.length = d ∧ m.2.length = d) : (sourceM s m).length = d := source_length h.1 h.2 hs
theorem len_sources {d : Nat} {ms : List Mv} {ss : List St} (hm : LenM d ms) (hs : Len d ss) : Len d (sources ms ss) := fun x hx => by
  obtain ⟨s, h1, m, h2, e⟩ := mem_sources.mp hx
  rw [e]
  exact sourceM_length (hs s h1) (hm m h2)
theorem len_both {d : Nat} {ms : List Mv} {ss : List St} (hm : LenM d ms) (hs : Len d ss) : Len d (ss ++ sources ms ss) := fun x hx => by
  rcases List.mem_append.mp hx with h | h
  · exact hs x h
  · exact len_sources hm hs x h
theorem len_stepBack {d : Nat} {ms : List Mv} {b : List St} (hm : LenM d ms) (hb : Len d b) : Len d (stepBack ms b) := len_least (len_both hm (len_least hb))
/-- numbers from nought on -/
def Pos (xs : List St) : Prop := ∀ x ∈ xs, ∀ i ∈ x, 0 ≤ i
def PosM (ms : List Mv) : Prop := ∀ m ∈ ms, (∀ i ∈ m.1, 0 ≤ i) ∧ ∀ i ∈ m.2, 0 ≤ i
theorem source_pos : ∀ {l g d : List Int}, (∀ i ∈ l, 0 ≤ i) → ∀ i ∈ source l g d, 0 ≤ i
  | x :: l, y :: g, z :: d, h, i, hi => by
    simp only [source, List.mem_cons] at hi
    rcases hi with rfl | hi
    · have := h x List.mem_cons_self
      split <;> omega
    · exact source_pos (fun j hj => h j (List.mem_cons_of_mem _ hj)) i hi
  | [], _, _, _, i, hi => by simp [source] at hi
  | _ :: _, [], _, _, i, hi => by simp [source] at hi
  | _ :: _, _ :: _, [], _, i, hi => by simp [source] at hi
theorem pos_least {d : Nat} {xs : List St} (hl : Len d xs) (hp : Pos xs) : Pos (least xs) := fun x hx => hp x (least_sub hl hx)
theorem pos_both {ms : List Mv} {ss : List St} (hm : PosM ms) (hs : Pos ss) : Pos (ss ++ sources ms ss) := fun x hx => by
  rcases List.mem_append.mp hx with h | h
  · exact hs x h
  · obtain ⟨s, h1, m, h2, e⟩ := mem_sources.mp h
    rw [e]
    exact source_pos (hm m h2).1
theorem pos_stepBack {d : Nat} {ms : List Mv} {b : List St} (hm : LenM d ms) (hb : Len d b) (pm : PosM ms) (pb : Pos b) : Pos (stepBack ms b) :=
  pos_least (len_both hm (len_least hb)) (pos_both pm (pos_least hb pb))
theorem sources_length (ms : List Mv) : ∀ ss : List St, (sources ms ss).length = ss.length * ms.length
  | [] => by simp [sources]
  | s :: ss => by
    have := sources_length ms ss
    unfold sources at this ⊢
    rw [List.flatMap_cons, List.length_append, this, List.length_map, List.length_cons, Nat.add_mul]
    omega

/-! ### a source is a hurdle -/
theorem covers_source : ∀ {d : Nat} {s l g t : List Int}, s.length = d → l.length = d → g.length = d → t.length = d →
    (covers s (source l g t) = true ↔ covers s l = true ∧ covers (adds s (subs l g)) t = true)
  | _, [], [], [], [], _, _, _, _ => by simp [covers, source, adds, subs]
  | d, x :: s, y :: l, z :: g, w :: t, h1, h2, h3, h4 => by
    cases d with
    | zero => simp at h1
    | succ d =>
      have ih := covers_source (d := d) (s := s) (l := l) (g := g) (t := t) (by simpa using h1) (by simpa using h2) (by simpa using h3) (by simpa using h4)
      simp only [source, adds, subs, covers_cons, ih]
      constructor
      · rintro ⟨a, b, c⟩
        split at a <;> exact ⟨⟨by omega, b⟩, by omega, c⟩
      · rintro ⟨⟨a, b⟩, c, e⟩
        refine ⟨?_, b, e⟩
        split <;> omega
  | _, [], _ :: _, _, _, h1, h2, _, _ => by simp at h1 h2; omega
  | _, _ :: _, [], _, _, h1, h2, _, _ => by simp at h1 h2; omega
  | _, [], [], _ :: _, _, h1, _, h3, _ => by simp at h1 h3; omega
  | _, _ :: _, _ :: _, [], _, h1, _, h3, _ => by simp at h1 h3; omega
  | _, [], [], [], _ :: _, h1, _, _, h4 => by simp at h1 h4; omega
  | _, _ :: _, _ :: _, _ :: _, [], h1, _, _, h4 => by simp at h1 h4; omega
theorem covers_sourceM {d : Nat} {s t : St} {m : Mv} (hs : s.length = d) (hm : m.1.length = d ∧ m.2.length = d) (ht : t.length = d) :
    covers s (sourceM t m) = true ↔ able s m = true ∧ covers (after s m) t = true := covers_source hs hm.1 hm.2 ht
theorem lifted_stepBack {d : Nat} {ms : List Mv} {b : List St} (hm : LenM d ms) (hb : Len d b) {s : St} (hs : s.length = d) :
    lifted s (stepBack ms b) = true ↔ lifted s b = true ∨ ∃ m ∈ ms, hits s b m = true := by
  unfold stepBack
  rw [lifted_least (len_both hm (len_least hb)) hs, lifted_iff]
  constructor
  · rintro ⟨x, mx, cx⟩
    rcases List.mem_append.mp mx with h | h
    · left
      rw [← lifted_least hb hs]
      exact lifted_iff.mpr ⟨x, h, cx⟩
    · right
      obtain ⟨t, ht, m, hmm, e⟩ := mem_sources.mp h
      subst e
      have lt := len_least hb t ht
      obtain ⟨q1, q2⟩ := (covers_sourceM hs (hm m hmm) lt).mp cx
      refine ⟨m, hmm, ?_⟩
      unfold hits
      rw [q1, ← lifted_least hb (after_length hs (hm m hmm)), lifted_iff.mpr ⟨t, ht, q2⟩]
      rfl
  · rintro (h | ⟨m, hmm, h⟩)
    · rw [← lifted_least hb hs] at h
      obtain ⟨x, mx, cx⟩ := lifted_iff.mp h
      exact ⟨x, List.mem_append.mpr (.inl mx), cx⟩
    · unfold hits at h
      rw [Bool.and_eq_true, ← lifted_least hb (after_length hs (hm m hmm))] at h
      obtain ⟨t, ht, q2⟩ := lifted_iff.mp h.2
      exact ⟨sourceM t m, List.mem_append.mpr (.inr (mem_sources.mpr ⟨t, ht, m, hmm, rfl⟩)), (covers_sourceM hs (hm m hmm) (len_least hb t ht)).mpr ⟨h.1, q2⟩⟩

/-! ### a change of the stands that keeps what covers what -/
structure Iso (d : Nat) (f : St → St) : Prop where
  len : ∀ s, s.length = d → (f s).length = d
  cov : ∀ s o, s.length = d → o.length = d → covers (f s) (f o) = covers s o
  src : ∀ s l g, s.length = d → l.length = d → g.length = d → source (f l) (f g) (f s) = f (source l g s)
  aft : ∀ s l g, s.length = d → l.length = d → g.length = d → adds (f s) (subs (f l) (f g)) = f (adds s (subs l g))
abbrev fm (f : St → St) (m : Mv) : Mv := (f m.1, f m.2)
section
variable {d : Nat} {f : St → St}
theorem Iso.inj (F : Iso d f) {s o : St} (hs : s.length = d) (ho : o.length = d) (e : f s = f o) : s = o := by
  refine covers_anti (by rw [hs, ho]) ?_ ?_
  · rw [← F.cov s o hs ho, e]; exact covers_refl _
  · rw [← F.cov o s ho hs, e]; exact covers_refl _
theorem Iso.lenM (F : Iso d f) {ms : List Mv} (h : LenM d ms) : LenM d (ms.map (fm f)) := fun m hm => by
  obtain ⟨m0, h0, e⟩ := List.mem_map.mp hm
  subst e
  exact ⟨F.len _ (h m0 h0).1, F.len _ (h m0 h0).2⟩
theorem Iso.lenS (F : Iso d f) {xs : List St} (h : Len d xs) : Len d (xs.map f) := fun x hx => by
  obtain ⟨y, hy, e⟩ := List.mem_map.mp hx
  subst e
  exact F.len _ (h y hy)
theorem len_srt {xs : List St} (h : Len d xs) : Len d (srt xs) := fun x hx => h x (mem_srt.mp hx)
theorem Iso.able (F : Iso d f) {s : St} {m : Mv} (hs : s.length = d) (hm : m.1.length = d ∧ m.2.length = d) : able (f s) (fm f m) = Tm.able s m := F.cov s m.1 hs hm.1
theorem Iso.after (F : Iso d f) {s : St} {m : Mv} (hs : s.length = d) (hm : m.1.length = d ∧ m.2.length = d) : after (f s) (fm f m) = f (Tm.after s m) := F.aft s m.1 m.2 hs hm.1 hm.2
theorem Iso.lifted (F : Iso d f) {s : St} {b b' : List St} (hs : s.length = d) (hb : Len d b) (h : ∀ x, x ∈ b' ↔ ∃ y ∈ b, x = f y) : lifted (f s) b' = Tm.lifted s b := by
  rw [Bool.eq_iff_iff, lifted_iff, lifted_iff]
  constructor
  · rintro ⟨x, mx, cx⟩
    obtain ⟨y, my, e⟩ := (h x).mp mx
    subst e
    exact ⟨y, my, by rw [← F.cov s y hs (hb y my)]; exact cx⟩
  · rintro ⟨y, my, cy⟩
    exact ⟨f y, (h (f y)).mpr ⟨y, my, rfl⟩, by rw [F.cov s y hs (hb y my)]; exact cy⟩
theorem mem_srt_map {b : List St} (x : St) : x ∈ srt (b.map f) ↔ ∃ y ∈ b, x = f y := by
  rw [mem_srt, List.mem_map]
  constructor
  · rintro ⟨y, h, e⟩; exact ⟨y, h, e.symm⟩
  · rintro ⟨y, h, e⟩; exact ⟨y, h, e.symm⟩
theorem nodup_map {xs : List St} (F : Iso d f) (hl : Len d xs) (h : xs.Nodup) : (xs.map f).Nodup := by
  induction xs with
  | nil => simp
  | cons x xs ih =>
    rw [List.map_cons, List.nodup_cons]
    rw [List.nodup_cons] at h
    refine ⟨fun m => ?_, ih (fun y hy => hl y (List.mem_cons_of_mem _ hy)) h.2⟩
    obtain ⟨y, hy, e⟩ := List.mem_map.mp m
    have := F.inj (hl y (List.mem_cons_of_mem _ hy)) (hl x List.mem_cons_self) e
    subst this
    exact h.1 hy
theorem Iso.least (F : Iso d f) {xs ys : List St} (hl : Len d xs) (h : ∀ y, y ∈ ys ↔ ∃ x ∈ xs, y = f x) : least ys = srt ((Tm.least xs).map f) := by
  have hy : Len d ys := fun y m => by
    obtain ⟨x, mx, e⟩ := (h y).mp m
    subst e
    exact F.len _ (hl x mx)
  refine up_unique (perm_of_nodup (nodup_least hy) ((srt_perm _).nodup_iff.mpr (nodup_map F (len_least hl) (nodup_least hl))) fun y => ?_) (up_least _) (srt_up _)
  rw [mem_least hy, mem_srt_map]
  constructor
  · rintro ⟨m1, m2⟩
    obtain ⟨x, mx, e⟩ := (h y).mp m1
    subst e
    refine ⟨x, (mem_least hl).mpr ⟨mx, fun z mz cz => ?_⟩, rfl⟩
    refine F.inj (hl z mz) (hl x mx) (m2 (f z) ((h (f z)).mpr ⟨z, mz, rfl⟩) ?_)
    rw [F.cov x z (hl x mx) (hl z mz)]
    exact cz
  · rintro ⟨x, mx, e⟩
    subst e
    obtain ⟨m1, m2⟩ := (mem_least hl).mp mx
    refine ⟨(h (f x)).mpr ⟨x, m1, rfl⟩, fun y my cy => ?_⟩
    obtain ⟨z, mz, e⟩ := (h y).mp my
    subst e
    rw [F.cov x z (hl x m1) (hl z mz)] at cy
    rw [m2 z mz cy]
theorem Iso.sourceM (F : Iso d f) {s : St} {m : Mv} (hs : s.length = d) (hm : m.1.length = d ∧ m.2.length = d) : sourceM (f s) (fm f m) = f (Tm.sourceM s m) := F.src s m.1 m.2 hs hm.1 hm.2
theorem Iso.stepBack (F : Iso d f) {ms : List Mv} {b : List St} (hm : LenM d ms) (hb : Len d b) : stepBack (ms.map (fm f)) (srt (b.map f)) = srt ((Tm.stepBack ms b).map f) := by
  unfold Tm.stepBack
  rw [F.least (xs := b) hb mem_srt_map]
  refine F.least (len_both hm (len_least hb)) fun y => ?_
  rw [List.mem_append, mem_srt_map, mem_sources]
  constructor
  · rintro (⟨x, mx, e⟩ | ⟨s', hs', m', hm', e⟩)
    · exact ⟨x, List.mem_append.mpr (.inl mx), e⟩
    · obtain ⟨s, hs, e1⟩ := (mem_srt_map s').mp hs'
      obtain ⟨m, hmm, e2⟩ := List.mem_map.mp hm'
      subst e1 e2
      exact ⟨Tm.sourceM s m, List.mem_append.mpr (.inr (mem_sources.mpr ⟨s, hs, m, hmm, rfl⟩)), by rw [e, F.sourceM (len_least hb s hs) (hm m hmm)]⟩
  · rintro ⟨x, mx, e⟩
    rcases List.mem_append.mp mx with mx | mx
    · exact .inl ⟨x, mx, e⟩
    · obtain ⟨s, hs, m, hmm, e1⟩ := mem_sources.mp mx
      subst e1
      exact .inr ⟨f s, (mem_srt_map _).mpr ⟨s, hs, rfl⟩, fm f m, List.mem_map.mpr ⟨m, hmm, rfl⟩, by rw [e, F.sourceM (len_least hb s hs) (hm m hmm)]⟩
theorem map_inj_perm (F : Iso d f) : ∀ {xs ys : List St}, Len d xs → Len d ys → (xs.map f).Perm (ys.map f) → xs.Perm ys
  | [], ys, _, _, p => by
    have := p.length_eq
    cases ys with
    | nil => exact .refl _
    | cons y ys => simp at this
  | x :: xs, ys, hx, hy, p => by
    have m : f x ∈ ys.map f := p.mem_iff.mp (by simp)
    obtain ⟨y, my, e⟩ := List.mem_map.mp m
    have e := F.inj (hy y my) (hx x List.mem_cons_self) e
    subst e
    have q := List.perm_cons_erase my
    have q' := q.map f
    rw [List.map_cons] at q' p
    have r : (xs.map f).Perm ((ys.erase y).map f) := List.Perm.cons_inv (p.trans q')
    exact (List.Perm.cons y (map_inj_perm F (fun z hz => hx z (List.mem_cons_of_mem _ hz)) (fun z hz => hy z (List.mem_of_mem_erase hz)) r)).trans q.symm
theorem Iso.srt_eq_iff (F : Iso d f) {xs ys : List St} (hx : Len d xs) (hy : Len d ys) (ux : Up xs) (uy : Up ys) : srt (xs.map f) = srt (ys.map f) ↔ xs = ys := by
  constructor
  · intro e
    have p : (xs.map f).Perm (ys.map f) := (srt_perm _).symm.trans (e ▸ srt_perm _)
    exact up_unique (map_inj_perm F hx hy p) ux uy
  · intro e; rw [e]
theorem Iso.ringsF (F : Iso d f) {ms : List Mv} (hm : LenM d ms) {bg : Option St} (hbg : ∀ b, bg = some b → b.length = d) {most : Nat} : ∀ (n : Nat) (pre : List (List St)) (ring : List St), Len d ring → Up ring →
    ringsF (ms.map (fm f)) (bg.map f) most n (pre.map fun r => srt (r.map f)) (srt (ring.map f)) = ((Tm.ringsF ms bg most n pre ring).1, (Tm.ringsF ms bg most n pre ring).2.map fun r => srt (r.map f)) := by
  intro n
  induction n with
  | zero =>
    intro pre ring hr ur
    have e1 : lift? (bg.map f) (srt (ring.map f)) = lift? bg ring := by
      cases bg with
      | none => rfl
      | some b => exact F.lifted (hbg b rfl) hr mem_srt_map
    have e2 : (srt (ring.map f)).length = ring.length := by rw [srt_length, List.length_map]
    have e3 : (Tm.stepBack (ms.map (fm f)) (srt (ring.map f)) = srt (ring.map f)) = (Tm.stepBack ms ring = ring) := by
      rw [F.stepBack hm hr, F.srt_eq_iff (len_stepBack hm hr) hr (up_least _) ur]
    unfold Tm.ringsF
    rw [e1, e2]
    simp only [e3]
    split
    · simp
    · split
      · simp
      · split <;> simp
  | succ n ih =>
    intro pre ring hr ur
    have e1 : lift? (bg.map f) (srt (ring.map f)) = lift? bg ring := by
      cases bg with
      | none => rfl
      | some b => exact F.lifted (hbg b rfl) hr mem_srt_map
    have e2 : (srt (ring.map f)).length = ring.length := by rw [srt_length, List.length_map]
    have e3 : (Tm.stepBack (ms.map (fm f)) (srt (ring.map f)) = srt (ring.map f)) = (Tm.stepBack ms ring = ring) := by
      rw [F.stepBack hm hr, F.srt_eq_iff (len_stepBack hm hr) hr (up_least _) ur]
    unfold Tm.ringsF
    rw [e1, e2]
    simp only [e3]
    split
    · simp
    · split
      · simp
      · split
        · simp
        · have := ih (pre ++ [ring]) (Tm.stepBack ms ring) (len_stepBack hm hr) (up_least _)
          rw [F.stepBack hm hr]
          simpa using this
end

/-! ### the rings stand in a chain -/
/-- the rings below top, from the highest down -/
def Dn (d : Nat) (ms : List Mv) : List (List St) → List St → Prop
  | [], _ => True
  | r :: rs, top => top = stepBack ms r ∧ Len d r ∧ Dn d ms rs r
structure Told (d : Nat) (ms : List Mv) (bg : Option St) (most : Nat) (w : Wd) (pre : List (List St)) (top : List St) : Prop where
  dn : Dn d ms pre.reverse top
  no : ∀ r ∈ pre, lift? bg r = false
  len : Len d top
  up : Up top
  pos : Pos top
  row : w = .row → lift? bg top = true
  bas : w = .bas → top.length ≤ most
theorem ringsF_told {d : Nat} {ms : List Mv} (hm : LenM d ms) (pm : PosM ms) {bg : Option St} {most : Nat} : ∀ (n : Nat) (pre : List (List St)) (ring : List St), Dn d ms pre.reverse ring → (∀ r ∈ pre, lift? bg r = false) → Len d ring → Up ring → Pos ring →
    ∃ pre' top, (ringsF ms bg most n pre ring).2 = pre' ++ [top] ∧ Told d ms bg most (ringsF ms bg most n pre ring).1 pre' top := by
  intro n
  induction n with
  | zero =>
    intro pre ring h1 h2 h3 h4 h5
    unfold ringsF
    split
    · rename_i c; exact ⟨pre, ring, rfl, h1, h2, h3, h4, h5, fun _ => c, (fun q => nomatch q)⟩
    · rename_i c
      split
      · exact ⟨pre, ring, rfl, h1, h2, h3, h4, h5, (fun q => nomatch q), (fun q => nomatch q)⟩
      · split
        · exact ⟨pre, ring, rfl, h1, h2, h3, h4, h5, (fun q => nomatch q), fun _ => by omega⟩
        · exact ⟨pre, ring, rfl, h1, h2, h3, h4, h5, (fun q => nomatch q), (fun q => nomatch q)⟩
  | succ n ih =>
    intro pre ring h1 h2 h3 h4 h5
    unfold ringsF
    split
    · rename_i c; exact ⟨pre, ring, rfl, h1, h2, h3, h4, h5, fun _ => c, (fun q => nomatch q)⟩
    · rename_i c
      split
      · exact ⟨pre, ring, rfl, h1, h2, h3, h4, h5, (fun q => nomatch q), (fun q => nomatch q)⟩
      · split
        · exact ⟨pre, ring, rfl, h1, h2, h3, h4, h5, (fun q => nomatch q), fun _ => by omega⟩
        · refine ih (pre ++ [ring]) (stepBack ms ring) ?_ (fun r hr => ?_) (len_stepBack hm h3) (up_least _) (pos_stepBack hm h3 pm h5)
          · rw [List.reverse_append]
            exact ⟨rfl, h3, h1⟩
          · rcases List.mem_append.mp hr with hr | hr
            · exact h2 r hr
            · have e : r = ring := by simpa using hr
              rw [e]
              cases q : lift? bg ring with
              | false => rfl
              | true => exact absurd q c
theorem rings_told {d : Nat} {ms : List Mv} (hm : LenM d ms) (pm : PosM ms) {bg : Option St} {t : St} (ht : t.length = d) (pt : ∀ i ∈ t, 0 ≤ i) {most : Nat} :
    ∃ pre' top, (rings ms bg t most).2 = pre' ++ [top] ∧ Told d ms bg most (rings ms bg t most).1 pre' top :=
  ringsF_told hm pm most [] (least [t]) trivial (fun r hr => by simp at hr) (fun x hx => by
    have e : x = t := by simpa [least_one] using hx
    rw [e, ht]) (up_least _) (fun x hx => by
    have e : x = t := by simpa [least_one] using hx
    rw [e]; exact pt)

/-! ### the first row -/
theorem pick_spec {ms : List Mv} {s : St} {r : List St} (h : ∃ m ∈ ms, hits s r m = true) : pick ms s r < ms.length ∧ ms.getD (pick ms s r) ([], []) ∈ ms ∧ hits s r (ms.getD (pick ms s r) ([], [])) = true := by
  have h1 : pick ms s r < ms.length := List.findIdx_lt_length.mpr h
  have e : ms.getD (pick ms s r) ([], []) = ms[pick ms s r] := by
    rw [List.getD_eq_getElem?_getD, List.getElem?_eq_getElem h1]
    rfl
  rw [e]
  exact ⟨h1, List.getElem_mem h1, List.findIdx_getElem (w := h1)⟩
def RowOk (ms : List Mv) : St → List (List St) → Prop
  | _, [] => True
  | s, r :: rs => (∃ m ∈ ms, hits s r m = true) ∧ RowOk ms (after s (ms.getD (pick ms s r) ([], []))) rs
theorem row_ok {d : Nat} {ms : List Mv} (hm : LenM d ms) : ∀ (rs : List (List St)) (top : List St) (s : St), s.length = d → Dn d ms rs top → lifted s top = true → (∀ r ∈ rs.head?, lifted s r = false) → RowOk ms s rs
  | [], _, _, _, _, _, _ => trivial
  | r :: rs, top, s, hs, h1, h2, h3 => by
    obtain ⟨e, hr, h1⟩ := h1
    subst e
    have nr : lifted s r = false := h3 r rfl
    have ex : ∃ m ∈ ms, hits s r m = true := by
      rcases (lifted_stepBack hm hr hs).mp h2 with q | q
      · rw [nr] at q; cases q
      · exact q
    obtain ⟨p1, p2, p3⟩ := pick_spec ex
    have hs' := after_length (d := d) hs (hm _ p2)
    refine ⟨ex, row_ok hm rs r _ hs' h1 ?_ fun r2 hr2 => ?_⟩
    · unfold hits at p3
      rw [Bool.and_eq_true] at p3
      exact p3.2
    · cases rs with
      | nil => simp at hr2
      | cons r3 rs =>
        have e3 : r3 = r2 := by simpa using hr2
        subst e3
        obtain ⟨e, hr3, _⟩ := h1
        cases q : lifted (after s (ms.getD (pick ms s r) ([], []))) r3 with
        | false => rfl
        | true =>
          have : lifted s (stepBack ms r3) = true := by
            refine (lifted_stepBack hm hr3 hs).mpr (.inr ⟨_, p2, ?_⟩)
            unfold hits at p3 ⊢
            rw [Bool.and_eq_true] at p3
            rw [p3.1, q]
            rfl
          rw [← e, nr] at this
          cases this
theorem told_row {d : Nat} {ms : List Mv} (hm : LenM d ms) {bg : St} (hb : bg.length = d) {most : Nat} {pre : List (List St)} {top : List St} (T : Told d ms (some bg) most .row pre top) : RowOk ms bg pre.reverse :=
  row_ok hm _ top bg hb T.dn (T.row rfl) fun r hr => T.no r (by
    have := List.mem_of_mem_head? hr
    simpa using this)
section
variable {d : Nat} {f : St → St}
theorem Iso.hits (F : Iso d f) {s : St} {r : List St} {m : Mv} (hs : s.length = d) (hr : Len d r) (hm : m.1.length = d ∧ m.2.length = d) : hits (f s) (srt (r.map f)) (fm f m) = Tm.hits s r m := by
  unfold Tm.hits
  rw [F.able hs hm, F.after hs hm, F.lifted (after_length hs hm) hr mem_srt_map]
theorem findIdx_congr {α : Type} {p q : α → Bool} : ∀ {l : List α}, (∀ x ∈ l, p x = q x) → l.findIdx p = l.findIdx q
  | [], _ => rfl
  | x :: l, h => by
    rw [List.findIdx_cons, List.findIdx_cons, h x List.mem_cons_self, findIdx_congr fun y hy => h y (List.mem_cons_of_mem _ hy)]
theorem Iso.pick (F : Iso d f) {ms : List Mv} (hm : LenM d ms) {s : St} {r : List St} (hs : s.length = d) (hr : Len d r) : pick (ms.map (fm f)) (f s) (srt (r.map f)) = Tm.pick ms s r := by
  unfold Tm.pick
  rw [List.findIdx_map]
  exact findIdx_congr fun m mm => F.hits hs hr (hm m mm)
def Lens (d : Nat) (rs : List (List St)) : Prop := ∀ r ∈ rs, Len d r
theorem dn_lens {ms : List Mv} : ∀ {rs : List (List St)} {top : List St}, Dn d ms rs top → Lens d rs
  | [], _, _ => fun r hr => by simp at hr
  | r :: rs, _, h => fun r' hr => by
    rcases List.mem_cons.mp hr with e | hr
    · rw [e]; exact h.2.1
    · exact dn_lens h.2.2 r' hr
theorem Iso.firstRow (F : Iso d f) {ms : List Mv} (hm : LenM d ms) : ∀ (rs : List (List St)) (s : St), s.length = d → Lens d rs → RowOk ms s rs →
    firstRow (ms.map (fm f)) (f s) (rs.map fun r => srt (r.map f)) = Tm.firstRow ms s rs
  | [], _, _, _, _ => rfl
  | r :: rs, s, hs, hl, ok => by
    obtain ⟨p1, p2, p3⟩ := pick_spec ok.1
    have hr : Len d r := hl r List.mem_cons_self
    have e : (ms.map (fm f)).getD (Tm.pick ms s r) ([], []) = fm f (ms.getD (Tm.pick ms s r) ([], [])) := by
      rw [List.getD_eq_getElem?_getD, List.getD_eq_getElem?_getD, List.getElem?_map, List.getElem?_eq_getElem p1]
      rfl
    rw [List.map_cons]
    simp only [Tm.firstRow]
    rw [F.pick hm hs hr, e, F.after hs (hm _ p2), F.firstRow hm rs _ (after_length hs (hm _ p2)) (fun r' hr' => hl r' (List.mem_cons_of_mem _ hr')) ok.2]
def Ans.mapW (f : St → St) : Ans → Ans
  | .row r => .row r
  | .opn k => .opn k
  | .wall b => .wall (srt (b.map f))
theorem rings_iso (F : Iso d f) {ms : List Mv} (hm : LenM d ms) {bg : Option St} (hbg : ∀ b, bg = some b → b.length = d) {t : St} (ht : t.length = d) {most : Nat} :
    rings (ms.map (fm f)) (bg.map f) (f t) most = ((rings ms bg t most).1, (rings ms bg t most).2.map fun r => srt (r.map f)) :=
  F.ringsF hm hbg most [] (least [t]) (fun x hx => by
    have e : x = t := by simpa [least_one] using hx
    rw [e, ht]) (up_least _)
theorem cover_iso (F : Iso d f) {ms : List Mv} (hm : LenM d ms) (pm : PosM ms) {bg t : St} (hb : bg.length = d) (ht : t.length = d) (pt : ∀ i ∈ t, 0 ≤ i) {most : Nat} :
    cover (ms.map (fm f)) (f bg) (f t) most = (cover ms bg t most).mapW f := by
  unfold cover
  have e := rings_iso F hm (bg := some bg) (fun b q => by cases q; exact hb) ht (most := most)
  rw [Option.map_some] at e
  rw [e]
  obtain ⟨pre, top, e2, T⟩ := rings_told hm pm (bg := some bg) ht pt (most := most)
  revert e2 T
  generalize rings ms (some bg) t most = R
  obtain ⟨w, rs⟩ := R
  intro e2 T
  have e2 : rs = pre ++ [top] := e2
  subst e2
  cases w with
  | row =>
    show Ans.row _ = Ans.row _
    rw [List.map_append, List.map_singleton, List.dropLast_concat, List.dropLast_concat, ← List.map_reverse]
    rw [F.firstRow hm pre.reverse bg hb (dn_lens T.dn) (told_row hm hb T)]
  | opn =>
    show Ans.opn _ = Ans.opn _
    rw [List.length_map]
  | bas =>
    show Ans.wall _ = Ans.wall _
    simp
theorem enough_iso (F : Iso d f) {ms : List Mv} (hm : LenM d ms) (pm : PosM ms) {t : St} (ht : t.length = d) (pt : ∀ i ∈ t, 0 ≤ i) {most : Nat} :
    enough (ms.map (fm f)) (f t) most = (enough ms t most).mapW f := by
  unfold enough
  have e := rings_iso F hm (bg := none) (fun b q => by cases q) ht (most := most)
  rw [Option.map_none] at e
  rw [e]
  obtain ⟨pre, top, e2, T⟩ := rings_told hm pm (bg := none) ht pt (most := most)
  revert e2 T
  generalize rings ms none t most = R
  obtain ⟨w, rs⟩ := R
  intro e2 T
  have e2 : rs = pre ++ [top] := e2
  subst e2
  cases w with
  | row => cases T.row rfl
  | opn =>
    show Ans.opn _ = Ans.opn _
    rw [List.length_map]
  | bas =>
    show Ans.wall _ = Ans.wall _
    simp
theorem tell_mapW (a : Ans) : tell (a.mapW f) = tell a := by cases a <;> rfl
theorem never_iso (F : Iso d f) {ms : List Mv} (hm : LenM d ms) (pm : PosM ms) {bg : St} (hb : bg.length = d) {most : Nat} :
    never (ms.map (fm f)) (f bg) most = never ms bg most := by
  unfold never
  rw [List.map_map]
  refine List.map_congr_left fun m hmm => ?_
  show tell (cover (ms.map (fm f)) (f bg) (f m.1) most) = _
  rw [cover_iso F hm pm hb (hm m hmm).1 (pm m hmm).1, tell_mapW]
end

/-! ### moves put behind that change nothing -/
def Extra (d : Nat) (ms extra : List Mv) : Prop := ∀ m ∈ extra, m ∈ ms ∨ m = (List.replicate d 0, List.replicate d 0)
theorem source_zero : ∀ {d : Nat} {t : List Int}, t.length = d → (∀ i ∈ t, 0 ≤ i) → source (List.replicate d 0) (List.replicate d 0) t = t
  | 0, [], _, _ => rfl
  | d + 1, x :: t, h, p => by
    rw [List.replicate_succ]
    simp only [source]
    rw [source_zero (by simpa using h) fun i hi => p i (List.mem_cons_of_mem _ hi)]
    have := p x List.mem_cons_self
    split
    · rw [show (0 : Int) + (x - 0) = x by omega]
    · rw [show (0 : Int) + 0 = x by omega]
  | 0, _ :: _, h, _ => by simp at h
  | _ + 1, [], h, _ => by simp at h
theorem lenM_more {d : Nat} {ms extra : List Mv} (hm : LenM d ms) (he : Extra d ms extra) : LenM d (ms ++ extra) := fun m h => by
  rcases List.mem_append.mp h with h | h
  · exact hm m h
  · rcases he m h with h | h
    · exact hm m h
    · rw [h]; simp
theorem posM_more {d : Nat} {ms extra : List Mv} (hm : PosM ms) (he : Extra d ms extra) : PosM (ms ++ extra) := fun m h => by
  rcases List.mem_append.mp h with h | h
  · exact hm m h
  · rcases he m h with h | h
    · exact hm m h
    · rw [h]
      exact ⟨fun i hi => by rw [(List.mem_replicate.mp hi).2]; omega, fun i hi => by rw [(List.mem_replicate.mp hi).2]; omega⟩
theorem stepBack_more {d : Nat} {ms extra : List Mv} (hm : LenM d ms) (he : Extra d ms extra) {b : List St} (hb : Len d b) (pb : Pos b) : stepBack (ms ++ extra) b = stepBack ms b := by
  unfold stepBack
  refine least_congr (len_both (lenM_more hm he) (len_least hb)) fun x => ?_
  rw [List.mem_append, List.mem_append, mem_sources, mem_sources]
  constructor
  · rintro (h | ⟨s, hs, m, hmm, e⟩)
    · exact .inl h
    · rcases List.mem_append.mp hmm with h | h
      · exact .inr ⟨s, hs, m, h, e⟩
      · rcases he m h with h | h
        · exact .inr ⟨s, hs, m, h, e⟩
        · subst h
          have e : x = source (List.replicate d 0) (List.replicate d 0) s := e
          rw [source_zero (len_least hb s hs) (pos_least hb pb s hs)] at e
          rw [e]
          exact .inl hs
  · rintro (h | ⟨s, hs, m, hmm, e⟩)
    · exact .inl h
    · exact .inr ⟨s, hs, m, List.mem_append.mpr (.inl hmm), e⟩
theorem ringsF_more {d : Nat} {ms extra : List Mv} (hm : LenM d ms) (pm : PosM ms) (he : Extra d ms extra) {bg : Option St} {most : Nat} : ∀ (n : Nat) (pre : List (List St)) (ring : List St), Len d ring → Pos ring →
    ringsF (ms ++ extra) bg most n pre ring = ringsF ms bg most n pre ring := by
  intro n
  induction n with
  | zero =>
    intro pre ring hl hp
    unfold ringsF
    rw [stepBack_more hm he hl hp]
  | succ n ih =>
    intro pre ring hl hp
    unfold ringsF
    rw [stepBack_more hm he hl hp]
    simp only [ih (pre ++ [ring]) (stepBack ms ring) (len_stepBack hm hl) (pos_stepBack hm hl pm hp)]
theorem firstRow_more {ms extra : List Mv} : ∀ (rs : List (List St)) (s : St), RowOk ms s rs → firstRow (ms ++ extra) s rs = firstRow ms s rs
  | [], _, _ => rfl
  | r :: rs, s, ok => by
    obtain ⟨p1, p2, p3⟩ := pick_spec ok.1
    have e : pick (ms ++ extra) s r = pick ms s r := by
      unfold pick
      rw [List.findIdx_append]
      exact if_pos p1
    have e2 : (ms ++ extra).getD (pick ms s r) ([], []) = ms.getD (pick ms s r) ([], []) := by
      rw [List.getD_eq_getElem?_getD, List.getD_eq_getElem?_getD, List.getElem?_append_left p1]
    simp only [firstRow]
    rw [e, e2, firstRow_more rs _ ok.2]
theorem rings_more {d : Nat} {ms extra : List Mv} (hm : LenM d ms) (pm : PosM ms) (he : Extra d ms extra) {bg : Option St} {t : St} (ht : t.length = d) (pt : ∀ i ∈ t, 0 ≤ i) {most : Nat} :
    rings (ms ++ extra) bg t most = rings ms bg t most :=
  ringsF_more hm pm he most [] (least [t]) (fun x hx => by
    have e : x = t := by simpa [least_one] using hx
    rw [e, ht]) (fun x hx => by
    have e : x = t := by simpa [least_one] using hx
    rw [e]; exact pt)
theorem cover_more {d : Nat} {ms extra : List Mv} (hm : LenM d ms) (pm : PosM ms) (he : Extra d ms extra) {bg t : St} (hb : bg.length = d) (ht : t.length = d) (pt : ∀ i ∈ t, 0 ≤ i) {most : Nat} :
    cover (ms ++ extra) bg t most = cover ms bg t most := by
  unfold cover
  rw [rings_more hm pm he ht pt]
  obtain ⟨pre, top, e2, T⟩ := rings_told hm pm (bg := some bg) ht pt (most := most)
  revert e2 T
  generalize rings ms (some bg) t most = R
  obtain ⟨w, rs⟩ := R
  intro e2 T
  have e2 : rs = pre ++ [top] := e2
  subst e2
  cases w with
  | row =>
    show Ans.row _ = Ans.row _
    rw [List.dropLast_concat, firstRow_more _ _ (told_row hm hb T)]
  | opn => rfl
  | bas => rfl
theorem enough_more {d : Nat} {ms extra : List Mv} (hm : LenM d ms) (pm : PosM ms) (he : Extra d ms extra) {t : St} (ht : t.length = d) (pt : ∀ i ∈ t, 0 ≤ i) {most : Nat} :
    enough (ms ++ extra) t most = enough ms t most := by
  unfold enough
  rw [rings_more hm pm he ht pt]
  obtain ⟨pre, top, e2, T⟩ := rings_told hm pm (bg := none) ht pt (most := most)
  revert e2 T
  generalize rings ms none t most = R
  obtain ⟨w, rs⟩ := R
  intro e2 T
  have e2 : rs = pre ++ [top] := e2
  subst e2
  cases w with
  | row => cases T.row rfl
  | opn => rfl
  | bas => rfl
end Tm
/-! zip of any number of tuples of one length: one turn by one induction over the iterators; made here for three. -/
namespace Z3
open PySem
open PySem.Sem (wp)
/-- a tuple of these values stands at T -/
abbrev Tu (g : Heap) (T : Addr) (vs : List Value) : Prop := g.get? T = some { cls := .type "tuple", data := .seq vs.toArray }
/-- the iterators js stand over the tuples ls, the m-th at the place at m -/
def Its (g : Heap) (js ls : List Addr) (at_ : Nat → Nat) : Prop := ∀ m j, js[m]? = some j → ∃ l, ls[m]? = some l ∧ g.IsTupleIter j l (at_ m)
/-- the tuples ls stand, the m-th with the values of cols m -/
def Cols (g : Heap) (ls : List Addr) (cols : Nat → Array Value) : Prop := ∀ m l, ls[m]? = some l → g.IsTuple l (cols m)
/-- all that is not in ch is kept -/
def KeepBut (ch : List Addr) (g g' : Heap) : Prop := g'.objs.size = g.objs.size ∧ ∀ b o, b ∉ ch → g.get? b = some o → g'.get? b = some o
theorem KeepBut.refl (ch : List Addr) (g : Heap) : KeepBut ch g g := ⟨rfl, fun _ _ _ e => e⟩
theorem KeepBut.trans {ch : List Addr} {g g1 g2 : Heap} (a : KeepBut ch g g1) (b : KeepBut ch g1 g2) : KeepBut ch g g2 := ⟨b.1.trans a.1, fun c o hc e => b.2 c o hc (a.2 c o hc e)⟩
theorem KeepBut.of {ch : List Addr} {a : Addr} {g g' : Heap} (h : Heap.SameBut a g g') (ha : a ∈ ch) : KeepBut ch g g' := ⟨h.1, fun b o hb e => h.extBut b o (fun z => hb (z ▸ ha)) e⟩
theorem Cols.keep {ch ls : List Addr} {g g' : Heap} {cols : Nat → Array Value} (k : KeepBut ch g g') (hd : ∀ l ∈ ls, l ∉ ch) (h : Cols g ls cols) : Cols g' ls cols := fun m l hl =>
  (h m l hl).at fun o e => k.2 l o (hd l (List.mem_of_getElem? hl)) e
section
variable {M : Model} {A : Around} {E : Value → Shared → Prop}
/-- a walk over a list that never leaves: an invariant by the place -/
theorem forIn_by {α β : Type} {body : α → β → Sem (ForInStep β)} {b : β} {Q : β → Shared → Prop} (J : Nat → Shared → Prop) (whole : List α)
    (step : ∀ m a t, whole[m]? = some a → J m t → wpAny M A (body a b) (fun r t' => r = .yield b ∧ J (m + 1) t') E t) (last : ∀ t, J whole.length t → Q b t) :
    ∀ (part : List α) (m : Nat) (t : Shared), whole.drop m = part → m ≤ whole.length → J m t → wpAny M A (forIn part b body) Q E t
  | [], m, t, hp, hm, hj => by
    have : m = whole.length := Nat.le_antisymm hm (List.drop_eq_nil_iff.mp hp)
    subst this
    rw [List.forIn_nil]
    exact wpAny_pure (last t hj)
  | a :: part, m, t, hp, hm, hj => by
    have ha : whole[m]? = some a := by
      have := congrArg List.head? hp
      rwa [List.head?_drop] at this
    have hlt : m < whole.length := (List.getElem?_eq_some_iff.mp ha).1
    rw [List.forIn_cons]
    refine wpAny_bind (wpAny_mono (step m a t ha hj) (fun r t' hr => ?_) fun _ _ z => z)
    obtain ⟨rfl, hj'⟩ := hr
    refine forIn_by J whole step last part (m + 1) t' ?_ hlt hj'
    rw [← List.drop_drop, hp]
    rfl
end
section
variable {prog : Program} {w : World} {A : Around} {E : Value → Shared → Prop} {s : Shared}
/-- what stands apart: the zip, its two tuples, its iterators; the walked tuples are none of them -/
structure ZApart (z TI TO : Addr) (js ls : List Addr) : Prop where
  iz : TI ≠ z
  oz : TO ≠ z
  io : TI ≠ TO
  off : ∀ j ∈ js, j ≠ z ∧ j ≠ TI ∧ j ≠ TO
  nd : js.Nodup
  far : ∀ l ∈ ls, l ∉ z :: TO :: js
/-- one draw: all iterators go on by one, the kept tuple takes the row, a new tuple of the row is handed out -/
theorem draw_row {z TI TO : Addr} {js ls : List Addr} {n k : Nat} {cols : Nat → Array Value} {row old : List Value} {Q : Value → Shared → Prop} (D : ZApart z TI TO js ls)
    (hn : js.length = n) (h0 : js ≠ []) (hold : old.length = n) (hrow : row.length = n) (hsz : n ≤ sizeLine) (hx : ∀ m x, row[m]? = some x → (cols m)[k]? = some x)
    (hz : IsZip s.heap z TI TO .none) (hI : Tu s.heap TI (js.map Value.ref)) (hO : Tu s.heap TO old) (hj : Its s.heap js ls fun _ => k) (hl : Cols s.heap ls cols)
    (hQ : ∀ g, IsZip g z TI TO (rawInt s.heap.objs.size) → Tu g TO row → Its g js ls (fun _ => k + 1) → Tu g s.heap.objs.size row → (∀ b o, b ∉ z :: TO :: js → s.heap.get? b = some o → g.get? b = some o) → Q (.ref s.heap.objs.size) { s with heap := g }) :
    wpAny (model prog w) A (Builtin.«zip.__next__» ⟨[.ref z], []⟩) (fun fin t => ∃ v, fin = .done (.ret v) ∧ Q v t) E s := by
  have hne : (js.map Value.ref).toArray.isEmpty = false := by
    cases js with
    | nil => exact absurd rfl h0
    | cons a r => rfl
  show wpAny _ _ (field (Value.ref z) 2 >>= _) _ _ s
  refine wpAny_bind (wpAny_field hz rfl (x := Value.bool false) rfl ?_)
  show wpAny _ _ (field (Value.ref z) 3 >>= _) _ _ s
  refine wpAny_bind (wpAny_field hz rfl (x := Value.ref TI) rfl (wpAny_bind (wpAny_seqItems hI rfl ?_)))
  simp only [hne, Bool.false_eq_true, if_false]
  show wpAny _ _ (Builtin.SmallTypes.ownedTupleIsFree (Value.ref z) >>= _) _ _ s
  unfold Builtin.SmallTypes.ownedTupleIsFree
  refine wpAny_bind (wpAny_bind (wpAny_field hz rfl (x := Value.none) rfl (wpAny_pure ?_)))
  simp only [if_true]
  refine wpAny_bind (wpAny_rule (wpAny_bind (wpAny_field hz rfl (x := Value.ref TO) rfl (wpAny_bind (wpAny_setField_rec hz (by simp) fun g1 hz1 same1 => wpAny_bind ?_)))))
  have hz1 : IsZip g1 z TI TO .ellipsis := hz1
  have k1 : KeepBut (z :: TO :: js) s.heap g1 := .of same1 (by simp)
  -- the walk over the iterators
  refine forIn_by (fun m (t : Shared) => t = { s with heap := t.heap } ∧ KeepBut (z :: TO :: js) s.heap t.heap ∧ IsZip t.heap z TI TO .ellipsis ∧ Tu t.heap TO (row.take m ++ old.drop m) ∧ Its t.heap js ls (fun i => if i < m then k + 1 else k))
    (js.map Value.ref).zipIdx (fun m a t ha hJ => ?_) (fun t hJ => ?_) _ 0 _ rfl (Nat.zero_le _) ⟨rfl, k1, hz1, ?_, fun m j hm => ?_⟩
  · obtain ⟨et, kt, zt, ot, jt⟩ := hJ
    rw [List.getElem?_zipIdx, List.getElem?_map] at ha
    cases hjm : js[m]? with
    | none => rw [hjm] at ha; cases ha
    | some j =>
    rw [hjm] at ha
    simp only [Option.map_some, Option.some.injEq, Nat.zero_add] at ha
    subst ha
    have hmn : m < n := by rw [← hn]; exact (List.getElem?_eq_some_iff.mp hjm).1
    obtain ⟨l, hlm, itl⟩ := jt m j hjm
    have itl : t.heap.IsTupleIter j l k := by simpa using itl
    have jin := D.off j (List.mem_of_getElem? hjm)
    have hx' : (cols m)[k]? = some row[m] := hx m row[m] (List.getElem?_eq_getElem (by omega))
    refine wpAny_bind (wpAny_onRaise ?_)
    show wpAny _ _ (Builtin.SmallTypes.nextOf (Value.ref j) >>= _) _ _ t
    refine wpAny_bind (RZ.nextOf_tuple_item itl (Cols.keep kt (fun b hb => D.far b hb) hl m l hlm) hx' fun g2 it2 same2 => wpAny_pure ?_)
    have ot2 : Tu g2 TO (row.take m ++ old.drop m) := same2.extBut _ _ jin.2.2.symm ot
    have lm2 : (row.take m ++ old.drop m).length = n := by rw [List.length_append, List.length_take, List.length_drop]; omega
    refine wpAny_bind (wpAny_seqItems ot2 rfl (wpAny_bind (wpAny_updateSeq ot2 rfl (wpAny_bind (wpAny_letGo (wpAny_pure ⟨rfl, ?_⟩))) (hz := by simpa [lm2] using hsz) (_hz' := by simp only [Array.size_setIfInBounds, List.size_toArray, lm2]; omega))))
    have same3 : Heap.SameBut TO g2 (g2.update TO (Obj.mapSeq (·.setIfInBounds m row[m]))) := Heap.SameBut.update ..
    have new3 : Tu (g2.update TO (Obj.mapSeq (·.setIfInBounds m row[m]))) TO (row.take (m + 1) ++ old.drop (m + 1)) := by
      show (g2.update TO (Obj.mapSeq (·.setIfInBounds m row[m]))).get? TO = _
      rw [Heap.get?_update_self _ ot2 rfl]
      have e : (row.take m ++ old.drop m).set m row[m] = row.take (m + 1) ++ old.drop (m + 1) := by
        have lt : (row.take m).length = m := by rw [List.length_take]; omega
        rw [List.set_append_right _ _ (by omega), lt, Nat.sub_self, List.drop_eq_getElem_cons (show m < old.length by omega), List.set_cons_zero, List.take_add_one, List.getElem?_eq_getElem (show m < row.length by omega), Option.toList_some, List.append_assoc]
        rfl
      have ln : (row.take (m + 1) ++ old.drop (m + 1)).length = n := by rw [List.length_append, List.length_take, List.length_drop]; omega
      simp only [Obj.mapSeq, List.setIfInBounds_toArray, e, List.size_toArray, ln, lm2, beq_self_eq_true, if_true]
    refine ⟨by rw [et], (kt.trans (.of same2 (by simp [List.mem_of_getElem? hjm]))).trans (.of same3 (by simp)), same3.extBut _ _ D.oz.symm (same2.extBut _ _ jin.1.symm zt), new3, fun i j' hi => ?_⟩
    have hij := D.off j' (List.mem_of_getElem? hi)
    by_cases him : i = m
    · subst him
      rw [hjm] at hi
      cases hi
      refine ⟨l, hlm, ?_⟩
      show Heap.IsTupleIter _ j l (if i < i + 1 then k + 1 else k)
      rw [if_pos (Nat.lt_succ_self i)]
      exact it2.at fun o e => same3.extBut _ _ jin.2.2 e
    · obtain ⟨l', hl', it'⟩ := jt i j' hi
      have hjj : j' ≠ j := fun z => him ((List.getElem_inj D.nd).mp (by
        rw [← (List.getElem?_eq_some_iff.mp hi).2, ← (List.getElem?_eq_some_iff.mp hjm).2] at z
        exact z))
      refine ⟨l', hl', ?_⟩
      have hp : (if i < m + 1 then k + 1 else k) = (if i < m then k + 1 else k) := by
        by_cases q : i < m
        · rw [if_pos q, if_pos (Nat.lt_succ_of_lt q)]
        · rw [if_neg q, if_neg (by omega)]
      show Heap.IsTupleIter _ j' l' (if i < m + 1 then k + 1 else k)
      rw [hp]
      exact it'.at fun o e => same3.extBut _ _ hij.2.2 (same2.extBut _ _ hjj e)
  · -- all have drawn: the new tuple
    obtain ⟨et, kt, zt, ot, jt⟩ := hJ
    rw [List.length_zipIdx, List.length_map, hn] at ot jt
    rw [List.take_of_length_le (by omega), List.drop_eq_nil_of_le (by omega), List.append_nil] at ot
    have zlt : z < t.heap.objs.size := Heap.lt_size zt
    refine wpAny_bind (wpAny_seqItems ot rfl (wpAny_bind (wpAny_newTuple ?_ (hsz := by simpa [hrow] using hsz))))
    show wpAny _ _ (Builtin.SmallTypes.ownedTupleHandOut (Value.ref z) (Value.ref t.heap.objs.size) >>= _) _ _ _
    unfold Builtin.SmallTypes.ownedTupleHandOut
    have zp : IsZip (t.heap.push { cls := .type "tuple", data := .seq row.toArray }) z TI TO .ellipsis := Heap.get?_push_of_some _ zt
    refine wpAny_bind (wpAny_bind (wpAny_setField_rec zp (by simp) fun g4 z4 same4 => ?_))
    have z4' : IsZip g4 z TI TO (rawInt t.heap.objs.size) := z4
    refine wpAny_setField_rec z4' (by simp) fun g5 z5 same5 => wpAny_pure ⟨_, rfl, ?_⟩
    have up : ∀ b o, b ≠ z → t.heap.get? b = some o → g5.get? b = some o := fun b o hb e => same5.extBut _ _ hb (same4.extBut _ _ hb (Heap.get?_push_of_some _ e))
    have fresh : Tu g5 t.heap.objs.size row := same5.extBut _ _ (Nat.ne_of_gt zlt) (same4.extBut _ _ (Nat.ne_of_gt zlt) (Heap.get?_push_size _ rfl))
    have z5' : IsZip g5 z TI TO (rawInt t.heap.objs.size) := z5
    rw [kt.1] at fresh z5'
    have hfin := hQ g5 z5' (up _ _ D.oz ot) (fun i j' hi => by
      obtain ⟨l', hl', it'⟩ := jt i j' hi
      have hin : i < n := by rw [← hn]; exact (List.getElem?_eq_some_iff.mp hi).1
      have it' : t.heap.IsTupleIter j' l' (if i < n then k + 1 else k) := it'
      rw [if_pos hin] at it'
      exact ⟨l', hl', it'.at fun o e => up _ o (D.off j' (List.mem_of_getElem? hi)).1 e⟩) fresh fun b o hb e => up b o (fun q => hb (by simp [q])) (kt.2 b o hb e)
    show Q (Value.ref t.heap.objs.size) { t with heap := g5 }
    rw [kt.1, et]
    exact hfin
  · have := same1.extBut _ _ D.oz hO
    simpa using this
  · obtain ⟨l, hlm, it0⟩ := hj m j hm
    refine ⟨l, hlm, ?_⟩
    show Heap.IsTupleIter g1 j l (if m < 0 then k + 1 else k)
    rw [if_neg (Nat.not_lt_zero m)]
    exact it0.at fun o e => same1.extBut _ _ (D.off j (List.mem_of_getElem? hm)).1 e
/-- the first iterator is at its end: so is the zip -/
theorem draw_end {z TI TO : Addr} {js ls : List Addr} {k : Nat} {cols : Nat → Array Value} {Q : Fin → Shared → Prop} (hh : A.handled = none) (D : ZApart z TI TO js ls) (h0 : js ≠ []) (hend : (cols 0)[k]? = none)
    (hz : IsZip s.heap z TI TO .none) (hI : Tu s.heap TI (js.map Value.ref)) (hj : Its s.heap js ls fun _ => k) (hl : Cols s.heap ls cols)
    (hE : ∀ g e, (∀ b o, b ∉ z :: TO :: js → s.heap.get? b = some o → g.get? b = some o) → (∃ o, g.get? e = some o ∧ o.cls = .type "StopIteration") → E (.ref e) { s with heap := g }) :
    wpAny (model prog w) A (Builtin.«zip.__next__» ⟨[.ref z], []⟩) Q E s := by
  cases js with
  | nil => exact absurd rfl h0
  | cons j rest =>
    obtain ⟨l, hlm, it0⟩ := hj 0 j rfl
    have jo := D.off j List.mem_cons_self
    show wpAny _ _ (field (Value.ref z) 2 >>= _) _ _ s
    refine wpAny_bind (wpAny_field hz rfl (x := Value.bool false) rfl ?_)
    show wpAny _ _ (field (Value.ref z) 3 >>= _) _ _ s
    refine wpAny_bind (wpAny_field hz rfl (x := Value.ref TI) rfl (wpAny_bind (wpAny_seqItems hI rfl ?_)))
    show wpAny _ _ (Builtin.SmallTypes.ownedTupleIsFree (Value.ref z) >>= _) _ _ s
    unfold Builtin.SmallTypes.ownedTupleIsFree
    refine wpAny_bind (wpAny_bind (wpAny_field hz rfl (x := Value.none) rfl (wpAny_pure ?_)))
    simp only [if_true, List.map_cons, List.zipIdx_cons, List.forIn_cons]
    refine wpAny_bind (wpAny_rule (wpAny_bind (wpAny_field hz rfl (x := Value.ref TO) rfl (wpAny_bind (wpAny_setField_rec hz (by simp) fun g1 hz1 same1 => wpAny_bind (wpAny_bind (wpAny_bind (wpAny_onRaise ?_))))))))
    have hz1 : IsZip g1 z TI TO .ellipsis := hz1
    show wpAny _ _ (Builtin.SmallTypes.nextOf (Value.ref j) >>= _) _ _ _
    have it1 : g1.IsTupleIter j l k := it0.at fun o e => same1.extBut _ _ jo.1 e
    have lt1 : g1.IsTuple l (cols 0) := (hl 0 l hlm).at fun o e => same1.extBut _ _ (fun q => D.far l (List.mem_of_getElem? hlm) (by simp [q])) e
    refine wpAny_bind (RZ.nextOf_tuple_end hh it1 lt1 hend fun g2 e same2 he => ?_)
    obtain ⟨oe, hoe, hce⟩ := he
    have hz2 : IsZip g2 z TI TO .ellipsis := same2 _ _ jo.1.symm hz1
    have hez : e ≠ z := fun q => by
      rw [q, hz2] at hoe
      cases hoe
      simp at hce
    refine wpAny_setField_rec hz2 (by simp) fun g3 _ same3 => hE g3 e (fun b o hb q => ?_) ⟨oe, same3.extBut _ _ hez hoe, hce⟩
    simp only [List.mem_cons, not_or] at hb
    exact same3.extBut _ _ hb.1 (same2 _ _ hb.2.2.1 (same1.extBut _ _ hb.1 q))
/-- the zip is asked for its next row -/
theorem next_row {z TI TO : Addr} {js ls : List Addr} {n k : Nat} {cols : Nat → Array Value} {row old : List Value} {Q : Option Value → Shared → Prop} (D : ZApart z TI TO js ls)
    (hn : js.length = n) (h0 : js ≠ []) (hold : old.length = n) (hrow : row.length = n) (hsz : n ≤ sizeLine) (hx : ∀ m x, row[m]? = some x → (cols m)[k]? = some x)
    (hz : IsZip s.heap z TI TO .none) (hI : Tu s.heap TI (js.map Value.ref)) (hO : Tu s.heap TO old) (hj : Its s.heap js ls fun _ => k) (hl : Cols s.heap ls cols)
    (hQ : ∀ g, IsZip g z TI TO (rawInt s.heap.objs.size) → Tu g TO row → Its g js ls (fun _ => k + 1) → Tu g s.heap.objs.size row → (∀ b o, b ∉ z :: TO :: js → s.heap.get? b = some o → g.get? b = some o) → Q (some (.ref s.heap.objs.size)) { s with heap := g }) :
    wpAny (model prog w) A (pyNext (.ref z)) Q E s := by
  have ty : s.TypeIs (.ref z) "zip" := ⟨_, hz, rfl⟩
  unfold pyNext
  refine wpAny_bind (wpAny_attempt (wpAny_callSpecial?_slot (name := Str.ofString "__next__") ty F.slot_zip_next (wpAny_call_entry F.slot_zip_next ty F.entry_zip_next ?_ (F.args_zip_next_1 _))))
  exact draw_row D hn h0 hold hrow hsz hx hz hI hO hj hl fun g a b c d e => wpAny_pure (hQ g a b c d e)
theorem next_none {z TI TO : Addr} {js ls : List Addr} {k : Nat} {cols : Nat → Array Value} {Q : Option Value → Shared → Prop} (hh : A.handled = none) (D : ZApart z TI TO js ls) (h0 : js ≠ []) (hend : (cols 0)[k]? = none)
    (hz : IsZip s.heap z TI TO .none) (hI : Tu s.heap TI (js.map Value.ref)) (hj : Its s.heap js ls fun _ => k) (hl : Cols s.heap ls cols)
    (hQ : ∀ g, (∀ b o, b ∉ z :: TO :: js → s.heap.get? b = some o → g.get? b = some o) → Q none { s with heap := g }) : wpAny (model prog w) A (pyNext (.ref z)) Q E s := by
  have ty : s.TypeIs (.ref z) "zip" := ⟨_, hz, rfl⟩
  unfold pyNext
  refine wpAny_bind (wpAny_attempt (wpAny_callSpecial?_slot (name := Str.ofString "__next__") ty F.slot_zip_next (wpAny_call_entry F.slot_zip_next ty F.entry_zip_next ?_ (F.args_zip_next_1 _))))
  refine draw_end hh D h0 hend hz hI hj hl fun g e hk he => ?_
  obtain ⟨oe, hoe, hce⟩ := he
  exact wpAny_bind (wpAny_isInstance (T := "StopIteration") (b := true) ⟨oe, hoe, hce⟩ isSubtype_stop (wpAny_pure (hQ g hk)))
end
end Z3
/-! ### made of three tuples -/
namespace Z3
open PySem
open PySem.Sem (wp)
abbrev itO (l : Addr) : Obj := { cls := .type "tuple_iterator", data := .fields #[.ref l, .int 0 0] }
abbrev its3 (g : Heap) (a b c : Addr) : Heap := ((g.push (itO a)).push (itO b)).push (itO c)
abbrev two3 (g : Heap) (a b c : Addr) : Heap := ((its3 g a b c).push { cls := .type "tuple", data := .seq #[.ref g.objs.size, .ref (g.push (itO a)).objs.size, .ref ((g.push (itO a)).push (itO b)).objs.size] }).push { cls := .type "tuple", data := .seq #[.none, .none, .none] }
abbrev zip3 (g : Heap) (a b c : Addr) : Heap := (two3 g a b c).push { cls := .type "zip", data := .fields #[.none, .bool false, .bool false, .ref (its3 g a b c).objs.size, .ref ((its3 g a b c).push { cls := .type "tuple", data := .seq #[.ref g.objs.size, .ref (g.push (itO a)).objs.size, .ref ((g.push (itO a)).push (itO b)).objs.size] }).objs.size] }
theorem call3 (a b c : Value) : checkTypeCall "zip" ⟨[a, b, c], []⟩ = pure () := by kernel_rfl
theorem new3 (a b c : Value) : checkBuiltinCall "zip.__new__" ⟨[.type "zip", a, b, c], []⟩ = pure () := by kernel_rfl
theorem init4 (a b c d : Value) : argsOk "object.__init__" ⟨[a, b, c, d], []⟩ := by
  have e := signature?_of (id := "object.__init__") (n := "__init__".toList.reverse.reverse.reverse) (o := "object".toList.reverse) (by kernel_rfl) F.owner_object
  unfold argsOk
  rw [e]
  kernel_rfl
theorem meets3 (a b c : Addr) (xs ys zs : Array Value) : Meets (Builtin.«zip.__new__» ⟨[.type "zip", .ref a, .ref b, .ref c], []⟩) (fun _ R s => (s.heap.IsTuple a xs ∧ s.heap.IsTuple b ys ∧ s.heap.IsTuple c zs) ∧ R (.ok (.ret (.ref (two3 s.heap a b c).objs.size))) { s with heap := zip3 s.heap a b c }) :=
  .of_wp fun prog w A R s h => by
    obtain ⟨⟨ha, hb, hc⟩, hR⟩ := h
    obtain ⟨g, ge, dr, tk, os⟩ := s
    have sz := sub_zip
    have h1 : Heap.IsTuple (Shared.heap ⟨g, ge, dr, tk, os⟩) a xs := ha
    have h2 : Heap.IsTuple (Shared.heap ⟨g.push (itO a), ge, dr, tk, os⟩) b ys := Heap.IsTuple.push hb _
    have h3 : Heap.IsTuple (Shared.heap ⟨(g.push (itO a)).push (itO b), ge, dr, tk, os⟩) c zs := Heap.IsTuple.push (Heap.IsTuple.push hc _) _
    wp_walk using wpAny_pyIter_tuple h1, wpAny_pyIter_tuple h2, wpAny_pyIter_tuple h3
    exact ⟨_, rfl, hR⟩
theorem apart3 {I a b c : Nat} (h : a < I ∧ b < I ∧ c < I) : ZApart (I + 5) (I + 3) (I + 4) [I, I + 1, I + 2] [a, b, c] := by
  refine ⟨?_, ?_, ?_, fun j hj => ?_, ?_, fun l hl => ?_⟩
  · exact fun e => by have e : I + 3 = I + 5 := e; omega
  · exact fun e => by have e : I + 4 = I + 5 := e; omega
  · exact fun e => by have e : I + 3 = I + 4 := e; omega
  · simp only [List.mem_cons, List.not_mem_nil, or_false] at hj
    have hj : @Eq Nat j I ∨ @Eq Nat j (I + 1) ∨ @Eq Nat j (I + 2) := hj
    refine ⟨fun e => ?_, fun e => ?_, fun e => ?_⟩
    · have e : @Eq Nat j (I + 5) := e
      omega
    · have e : @Eq Nat j (I + 3) := e
      omega
    · have e : @Eq Nat j (I + 4) := e
      omega
  · simp
  · simp only [List.mem_cons, List.not_mem_nil, or_false] at hl ⊢
    intro e
    have hl : @Eq Nat l a ∨ @Eq Nat l b ∨ @Eq Nat l c := hl
    have e : @Eq Nat l (I + 5) ∨ @Eq Nat l (I + 4) ∨ @Eq Nat l I ∨ @Eq Nat l (I + 1) ∨ @Eq Nat l (I + 2) := e
    omega
section
variable {prog : Program} {w : World} {A : Around} {E : Value → Shared → Prop} {s : Shared}
theorem call_zip3 {a b c : Addr} {xs ys zs : Array Value} {Q : Value → Shared → Prop} (ha : s.heap.IsTuple a xs) (hb : s.heap.IsTuple b ys) (hc : s.heap.IsTuple c zs)
    (h : ∀ g, IsZip g (s.heap.objs.size + 5) (s.heap.objs.size + 3) (s.heap.objs.size + 4) .none → Tu g (s.heap.objs.size + 3) ([s.heap.objs.size, s.heap.objs.size + 1, s.heap.objs.size + 2].map Value.ref) → Tu g (s.heap.objs.size + 4) [.none, .none, .none] →
      Its g [s.heap.objs.size, s.heap.objs.size + 1, s.heap.objs.size + 2] [a, b, c] (fun _ => 0) → (∀ d o, s.heap.get? d = some o → g.get? d = some o) → Q (.ref (s.heap.objs.size + 5)) { s with heap := g }) :
    wpAny (model prog w) A (call (.type "zip") [.ref a, .ref b, .ref c]) Q E s := by
  refine callType_new F.called_zip (by decide) (call3 _ _ _) (new3 _ _ _) (fun o => init4 o _ _ _) F.entry_zip_new (meets3 a b c xs ys zs) ⟨⟨ha, hb, hc⟩, ?_⟩
  have up : ∀ (g : Heap) (o : Obj) (d : Addr) (u : Obj), g.get? d = some u → (g.push o).get? d = some u := fun g o d u e => Heap.get?_push_of_some _ e
  have top : ∀ (g : Heap) (o : Obj) (n : Nat), o.isFreed = false → g.objs.size = n → (g.push o).get? n = some o := fun g o n f e => by rw [← e]; exact Heap.get?_push_size _ f
  have n1 : (s.heap.push (itO a)).objs.size = s.heap.objs.size + 1 := Heap.size_push ..
  have n2 : ((s.heap.push (itO a)).push (itO b)).objs.size = s.heap.objs.size + 2 := by rw [Heap.size_push, n1]
  have n3 : (its3 s.heap a b c).objs.size = s.heap.objs.size + 3 := by rw [Heap.size_push, n2]
  have n5 : (two3 s.heap a b c).objs.size = s.heap.objs.size + 5 := by rw [Heap.size_push, Heap.size_push, n3]
  have ez : (zip3 s.heap a b c).get? (two3 s.heap a b c).objs.size = some _ := Heap.get?_push_size _ rfl
  have key : IsZip (zip3 s.heap a b c) (s.heap.objs.size + 5) (s.heap.objs.size + 3) (s.heap.objs.size + 4) .none := by
    rw [n5, n3, Heap.size_push, n3] at ez
    exact ez
  refine ⟨⟨_, ez, rfl⟩, ?_⟩
  show Q (Value.ref (two3 s.heap a b c).objs.size) _
  rw [n5]
  refine h _ key ?_ ?_ (fun m j hm => ?_) fun d o e => up _ _ _ _ (up _ _ _ _ (up _ _ _ _ (up _ _ _ _ (up _ _ _ _ (up _ _ _ _ e)))))
  · have e := up _ { cls := .type "zip", data := .fields #[.none, .bool false, .bool false, .ref (its3 s.heap a b c).objs.size, .ref ((its3 s.heap a b c).push { cls := .type "tuple", data := .seq #[.ref s.heap.objs.size, .ref (s.heap.push (itO a)).objs.size, .ref ((s.heap.push (itO a)).push (itO b)).objs.size] }).objs.size] } _ _ (up _ { cls := .type "tuple", data := .seq #[.none, .none, .none] } _ _ (top (its3 s.heap a b c) { cls := .type "tuple", data := .seq #[.ref s.heap.objs.size, .ref (s.heap.push (itO a)).objs.size, .ref ((s.heap.push (itO a)).push (itO b)).objs.size] } _ rfl n3))
    have l3 : [s.heap.objs.size, s.heap.objs.size + 1, s.heap.objs.size + 2].map Value.ref = [Value.ref s.heap.objs.size, .ref (s.heap.push (itO a)).objs.size, .ref ((s.heap.push (itO a)).push (itO b)).objs.size] := by rw [n1, n2]; rfl
    rw [l3]
    exact e
  · exact up _ _ _ _ (top _ _ _ rfl (by rw [Heap.size_push, n3]))
  · match m, hm with
    | 0, hm =>
      cases hm
      exact ⟨a, rfl, _, up _ _ _ _ (up _ _ _ _ (up _ _ _ _ (up _ _ _ _ (up _ _ _ _ (top _ _ _ rfl rfl))))), rfl, rfl⟩
    | 1, hm =>
      cases hm
      exact ⟨b, rfl, _, up _ _ _ _ (up _ _ _ _ (up _ _ _ _ (up _ _ _ _ (top _ _ _ rfl n1)))), rfl, rfl⟩
    | 2, hm =>
      cases hm
      exact ⟨c, rfl, _, up _ _ _ _ (up _ _ _ _ (up _ _ _ _ (top _ _ _ rfl n2))), rfl, rfl⟩
    | m + 3, hm => cases hm
end
end Z3
namespace Z3
open PySem PySem.Spec PyProof.Rows L2
/-- the tuples at a, b, c, their items in new triples -/
def Itz3 (K : PySem.W.Frag) (a b c : Addr) : It where
  go := fun i H => ∃ (xs ys zs : List V) (x y z : V), (SqT K H a xs ∧ SqT K H b ys ∧ SqT K H c zs) ∧ xs[i]? = some x ∧ ys[i]? = some y ∧ zs[i]? = some z
  yld := fun i H v H' => ∃ T x y z, (v = .ref T ∧ H T = none ∧ H' = upd H T (.tup [x, y, z])) ∧ (∀ xs, SqT K H a xs → xs[i]? = some x) ∧ (∀ ys, SqT K H b ys → ys[i]? = some y) ∧ ∀ zs, SqT K H c zs → zs[i]? = some z
  stop := fun i H => ∃ xs ys zs : List V, (SqT K H a xs ∧ SqT K H b ys ∧ SqT K H c zs) ∧ xs.length ≤ i
/-- the state between two rows -/
structure Rest (z TI TO : Addr) (js ls : List Addr) (i : Nat) (g : Heap) : Prop where
  z : IsZip g z TI TO .none
  ti : Tu g TI (js.map Value.ref)
  to : ∃ old, old.length = js.length ∧ Tu g TO old
  its : Its g js ls fun _ => i
theorem Rest.obj {z TI TO : Addr} {js ls : List Addr} {i : Nat} {g : Heap} (R : Rest z TI TO js ls i g) : ∀ d ∈ z :: TI :: TO :: js, ∃ o, g.get? d = some o ∧ ∀ v, o.data ≠ .cell v := fun d hd => by
  simp only [List.mem_cons] at hd
  rcases hd with rfl | rfl | rfl | hd
  · exact ⟨_, R.z, fun v q => nomatch q⟩
  · exact ⟨_, R.ti, fun v q => nomatch q⟩
  · obtain ⟨old, _, ho⟩ := R.to
    exact ⟨_, ho, fun v q => nomatch q⟩
  · obtain ⟨m, hm, e⟩ := List.mem_iff_getElem.mp hd
    obtain ⟨l, _, o, ho, _, hdat⟩ := R.its m d (by rw [List.getElem?_eq_getElem hm, e])
    exact ⟨o, ho, fun v q => by rw [hdat] at q; cases q⟩
theorem cols3 {g : Heap} {a b c : Addr} {xs ys zs : List Value} (ha : IsTup g a xs.toArray) (hb : IsTup g b ys.toArray) (hc : IsTup g c zs.toArray) : Cols g [a, b, c] fun m => ([xs, ys, zs].getD m []).toArray := fun m l hl => by
  match m, hl with
  | 0, hl => cases hl; exact ha
  | 1, hl => cases hl; exact hb
  | 2, hl => cases hl; exact hc
  | m + 3, hl => cases hl
theorem turn_zip3 {P : Program} {w : World} {K : PySem.W.Frag} {elts : List Expr} {kk : Nat} {tpos : Pos} {a b c z TI TO j1 j2 j3 : Addr} (D : ZApart z TI TO [j1, j2, j3] [a, b, c]) :
    Turn P w K (.Tuple elts kk tpos) (Itz3 K a b c) (z :: TI :: TO :: [j1, j2, j3]) z (Rest z TI TO [j1, j2, j3] [a, b, c]) where
  mem := List.mem_cons_self
  obj := fun _ _ R => R.obj
  keep := fun i g g' R k => by
    obtain ⟨old, lo, ho⟩ := R.to
    refine ⟨k z List.mem_cons_self _ R.z, k TI (by simp) _ R.ti, ⟨old, lo, k TO (by simp) _ ho⟩, fun m j hm => ?_⟩
    obtain ⟨l, hl, it⟩ := R.its m j hm
    exact ⟨l, hl, it.at fun o e => k j (by simp only [List.mem_cons]; exact .inr (.inr (.inr (by simpa using List.mem_of_getElem? hm)))) o e⟩
  item := by
    intro X hP hw hK hc i pins s σ H E I hf R hg
    subst hP hw hK
    obtain ⟨xs, ys, zs, x, y, v, ⟨qa, qb, qc⟩, hx, hy, hv⟩ := hg
    obtain ⟨us, ra, pa, _⟩ := I.tuple qa
    obtain ⟨vs, rb, pb, _⟩ := I.tuple qb
    obtain ⟨ws, rc, pc, _⟩ := I.tuple qc
    obtain ⟨u1, g1, r1⟩ := ra.get hx
    obtain ⟨u2, g2, r2⟩ := rb.get hy
    obtain ⟨u3, g3, r3⟩ := rc.get hv
    obtain ⟨old, lo, ho⟩ := R.to
    have zlt : z < s.heap.objs.size := Heap.lt_size R.z
    refine next_row D (n := 3) rfl (by simp) lo (row := [u1, u2, u3]) rfl (by decide) (cols := fun m => ([us, vs, ws].getD m []).toArray) (fun m q hq => ?_) R.z R.ti ho R.its (cols3 pa pb pc) fun g zg og jg fg kg => ?_
    · match m, hq with
      | 0, hq => cases hq; simpa using g1
      | 1, hq => cases hq; simpa using g2
      | 2, hq => cases hq; simpa using g3
      | m + 3, hq => cases hq
    · refine ⟨_, rfl, wpAny_letOwnedTupleGo_zip (s := { s with heap := g }) zg fun g' zg' same => ?_⟩
      have off : ∀ d o, d ∉ z :: TI :: TO :: [j1, j2, j3] → s.heap.get? d = some o → g'.get? d = some o := fun d o hd e => by
        simp only [List.mem_cons, not_or] at hd
        exact (same.2 _ hd.1).trans (kg d o (by simp only [List.mem_cons, not_or]; exact ⟨hd.1, hd.2.2⟩) e)
      have made : ObjOk X.prog X.w (upd H s.heap.objs.size (.tup [x, y, v])) g' s.heap.objs.size (.tup [x, y, v]) := ⟨by show 3 ≤ sizeLine; decide, [u1, u2, u3], .cons r1 (.cons r2 (.cons r3 .nil)), ⟨_, (same.2 _ (Nat.ne_of_gt zlt)).trans fg, rfl, _, rfl⟩⟩
      have I' : Inv X pins σ (upd H s.heap.objs.size (.tup [x, y, v])) { s with heap := g' } := I.turnedNew (t' := s.toks) (ch := z :: TI :: TO :: [j1, j2, j3]) off hf (Nat.le_refl _) made
      refine ⟨.ref s.heap.objs.size, _, I', rfl, ⟨_, x, y, v, ⟨rfl, I.hok.fresh (Nat.le_refl _), rfl⟩, fun l hl => by rw [I.tuple_inj hl qa]; exact hx, fun l hl => by rw [I.tuple_inj hl qb]; exact hy, fun l hl => by rw [I.tuple_inj hl qc]; exact hv⟩, ⟨zg', ?_, ⟨_, rfl, (same.2 _ D.oz).trans og⟩, fun m j hm => ?_⟩, fun d hd => ?_⟩
      · have e := kg TI _ (by
          have o1 := (D.off j1 (by simp)).2.1
          have o2 := (D.off j2 (by simp)).2.1
          have o3 := (D.off j3 (by simp)).2.1
          simp only [List.mem_cons, List.not_mem_nil, or_false, not_or]
          exact ⟨D.iz, D.io, o1.symm, o2.symm, o3.symm⟩) R.ti
        exact (same.2 _ D.iz).trans e
      · obtain ⟨l, hl, it⟩ := jg m j hm
        exact ⟨l, hl, it.at fun o e => (same.2 _ (D.off j (List.mem_of_getElem? hm)).1).trans e⟩
      · obtain ⟨o, ho', _⟩ := R.obj d hd
        rw [upd_ne (Nat.ne_of_lt (Heap.lt_size ho'))]
        exact (hf d hd).1
  done := by
    intro X hP hw hK hc i pins s σ H E I hf R hg
    subst hP hw hK
    obtain ⟨xs, ys, zs, ⟨qa, qb, qc⟩, hend⟩ := hg
    obtain ⟨us, ra, pa, _⟩ := I.tuple qa
    obtain ⟨vs, rb, pb, _⟩ := I.tuple qb
    obtain ⟨ws, rc, pc, _⟩ := I.tuple qc
    have le := ra.length
    refine next_none (I.ok.hd hc) D (by simp) (k := i) (cols := fun m => ([us, vs, ws].getD m []).toArray) (by simp; omega) R.z R.ti R.its (cols3 pa pb pc) fun g hk => ⟨rfl, I.turnedL (t' := s.toks) (ch := z :: TI :: TO :: [j1, j2, j3]) (fun d o hd e => hk d o (fun q => hd ?_) e) hf⟩
    simp only [List.mem_cons] at q ⊢
    rcases q with q | q | q
    · exact .inl q
    · exact .inr (.inr (.inl q))
    · exact .inr (.inr (.inr q))
  self := fun A i s Q E R h => wpAny_pyIter_zip R.z h
def iZip3 (K : PySem.W.Frag) (ta : TA) : TI := fun σ H R => ta σ H fun vs H1 => ∃ a b c xs ys zs, vs = [.ref a, .ref b, .ref c] ∧ (SqT K H1 a xs ∧ SqT K H1 b ys ∧ SqT K H1 c zs) ∧ R (Itz3 K a b c) H1
theorem vals3 {a b c : Addr} {us : List Value} (r : Vals [.ref a, .ref b, .ref c] us) : us = [.ref a, .ref b, .ref c] := by
  cases r with
  | cons r1 r =>
  cases r with
  | cons r2 r =>
  cases r with
  | cons r3 r =>
  cases r
  cases r1
  cases r2
  cases r3
  rfl
/-- zip(e, f, g) walked by a written tuple of names -/
theorem pi_zip3 {X : Cx} {e f g : Expr} {ta : TA} {p pos tpos : Pos} {elts : List Expr} {kk : Nat} (hg : Gl X "zip") (hm : X.mg "zip" = none) (ha : PA X [e, f, g] ta)
    (h1 : starEach [e, f, g] X.env = (false, eval e X.env) :: starEach [f, g] X.env := by rfl) (h2 : (backTo pos (starEach [f, g] X.env)).any (·.1) = false := by rfl) :
    PI X (.Tuple elts kk tpos) (.Call (.Name "zip" p) [e, f, g] [] pos) (iZip3 X.K ta) := by
  refine ⟨fun pins s σ H R I h => Call_ (ld_blt I hg hm PyProof.Rows.boot_zip (PyProof.Rows.callWith_type1 (thn (ha.run pos pins s σ H _ I h) fun us t ht => ?_) h1 h2))⟩
  obtain ⟨vs, H1, I1, r, a, b, c, xs, ys, zs, rfl, ⟨qa, qb, qc⟩, q⟩ := ht
  rw [vals3 r]
  obtain ⟨ua, _, pa, _⟩ := I1.tuple qa
  obtain ⟨ub, _, pb, _⟩ := I1.tuple qb
  obtain ⟨uc, _, pc, _⟩ := I1.tuple qc
  have lt : ∀ {d : Addr} {items : Array Value}, IsTup t.heap d items → d < t.heap.objs.size := fun hp => by
    obtain ⟨o, ho, _⟩ := hp
    exact Heap.lt_size ho
  refine call_zip3 (show t.heap.IsTuple a ua.toArray from pa) (show t.heap.IsTuple b ub.toArray from pb) (show t.heap.IsTuple c uc.toArray from pc) fun g' zg ig og jg kg => wpAny_pyIter_zip zg ?_
  refine ⟨t.heap.objs.size + 5, _, _, _, H1, rfl, I1.kept (t' := t.toks) kg, turn_zip3 (apart3 ⟨lt pa, lt pb, lt pc⟩), ⟨zg, ig, ⟨_, rfl, og⟩, jg⟩, fun d hd => ?_, q⟩
  have hle : t.heap.objs.size ≤ d := by
    simp only [List.mem_cons, List.not_mem_nil, or_false] at hd
    rcases hd with z | z | z | z | z | z <;> rw [z] <;> first | exact Nat.le_refl _ | exact Nat.le_add_right _ _
  exact I1.fpOk hle (I1.hok.fresh hle)
end Z3
/-! What a reading evaluates to, told by data (PyData). -/
namespace TK
open PySem PySem.Spec PyProof.Rows L2 Evl
/-! ### data that holds no list -/
mutual
def nol : PyData → Bool
  | .list _ => false
  | .tuple ds => nolAll ds
  | .dict _ => false
  | .none => true
  | .bool _ => true
  | .int _ => true
  | .str _ => true
def nolAll : List PyData → Bool
  | [] => true
  | d :: ds => nol d && nolAll ds
end
section
variable {K : PySem.W.Frag} {H H' : Hp}
def ExT (K : PySem.W.Frag) (H H' : Hp) : Prop := ∀ a xs, SqT K H a xs → SqT K H' a xs
mutual
theorem dp_keep (hl : ∀ a xs, SqL K H a xs → SqL K H' a xs) (ht : ExT K H H') : ∀ (d : PyData) (v : V), Dp K H v d → Dp K H' v d
  | .none, _, h => by cases h; exact .non
  | .bool b, _, h => by cases h; exact .bl b
  | .int i, _, h => by cases h; exact .int i
  | .str x, _, h => by cases h; exact .str x
  | .list ds, _, h => by
    cases h with
    | lst hs ha => exact .lst (hl _ _ hs) (da_keep hl ht ds _ ha)
  | .tuple ds, _, h => by
    cases h with
    | tup hs ha => exact .tup (ht _ _ hs) (da_keep hl ht ds _ ha)
  | .dict _, _, h => by cases h
theorem da_keep (hl : ∀ a xs, SqL K H a xs → SqL K H' a xs) (ht : ExT K H H') : ∀ (ds : List PyData) (vs : List V), DpAll K H vs ds → DpAll K H' vs ds
  | [], _, h => by cases h; exact .nil
  | d :: ds, _, h => by
    cases h with
    | cons h1 h2 => exact .cons (dp_keep hl ht d _ h1) (da_keep hl ht ds _ h2)
end
mutual
theorem dp_keepT (ht : ExT K H H') : ∀ (d : PyData) (v : V), nol d = true → Dp K H v d → Dp K H' v d
  | .none, _, _, h => by cases h; exact .non
  | .bool b, _, _, h => by cases h; exact .bl b
  | .int i, _, _, h => by cases h; exact .int i
  | .str x, _, _, h => by cases h; exact .str x
  | .list ds, _, n, h => by simp [nol] at n
  | .tuple ds, _, n, h => by
    cases h with
    | tup hs ha => exact .tup (ht _ _ hs) (da_keepT ht ds _ (by simpa [nol] using n) ha)
  | .dict _, _, _, h => by cases h
theorem da_keepT (ht : ExT K H H') : ∀ (ds : List PyData) (vs : List V), nolAll ds = true → DpAll K H vs ds → DpAll K H' vs ds
  | [], _, _, h => by cases h; exact .nil
  | d :: ds, _, n, h => by
    cases h with
    | cons h1 h2 =>
      simp only [nolAll, Bool.and_eq_true] at n
      exact .cons (dp_keepT ht d _ n.1 h1) (da_keepT ht ds _ n.2 h2)
end
theorem dp_mono (e : Ex H H') {d : PyData} {v : V} (h : Dp K H v d) : Dp K H' v d := dp_keep (fun _ _ => ex_l e) (fun _ _ => ex_t e) d v h
theorem da_mono (e : Ex H H') {ds : List PyData} {vs : List V} (h : DpAll K H vs ds) : DpAll K H' vs ds := da_keep (fun _ _ => ex_l e) (fun _ _ => ex_t e) ds vs h
theorem exT_upd {p : Addr} {xs : List V} {o : HO} (hp : H p = some (.lst xs)) : ExT K H (upd H p o) := fun a ys h => by
  rcases h with (h | ⟨u, h⟩) | h
  · exact .inl (.inl (by rw [upd_ne (ne_of h hp (by intro z; cases z))]; exact h))
  · exact .inl (.inr ⟨u, by rw [upd_ne (ne_of h hp (by intro z; cases z))]; exact h⟩)
  · exact .inr h
theorem dp_upd {p : Addr} {xs : List V} {o : HO} (hp : H p = some (.lst xs)) {d : PyData} {v : V} (n : nol d = true) (h : Dp K H v d) : Dp K (upd H p o) v d := dp_keepT (exT_upd hp) d v n h
theorem da_upd {p : Addr} {xs : List V} {o : HO} (hp : H p = some (.lst xs)) {ds : List PyData} {vs : List V} (n : nolAll ds = true) (h : DpAll K H vs ds) : DpAll K (upd H p o) vs ds := da_keepT (exT_upd hp) ds vs n h
/-! ### lists of data -/
theorem da_length : ∀ {vs : List V} {ds : List PyData}, DpAll K H vs ds → vs.length = ds.length
  | _, _, .nil => rfl
  | _, _, .cons _ t => by rw [List.length_cons, List.length_cons, da_length t]
theorem da_get : ∀ {vs : List V} {ds : List PyData} {i : Nat} {d : PyData}, DpAll K H vs ds → ds[i]? = some d → ∃ v, vs[i]? = some v ∧ Dp K H v d
  | _, _, _, _, .nil, e => by simp at e
  | _, _, 0, _, .cons r _, e => by simp at e; subst e; exact ⟨_, rfl, r⟩
  | _, _, i + 1, d, .cons _ t, e => by
    obtain ⟨v, h1, h2⟩ := da_get (i := i) (d := d) t (by simpa using e)
    exact ⟨v, by simpa using h1, h2⟩
theorem da_app : ∀ {vs ws : List V} {ds es : List PyData}, DpAll K H vs ds → DpAll K H ws es → DpAll K H (vs ++ ws) (ds ++ es)
  | _, _, _, _, .nil, h => h
  | _, _, _, _, .cons r t, h => .cons r (da_app t h)
theorem da_snoc {vs : List V} {v : V} {ds : List PyData} {d : PyData} (h : DpAll K H vs ds) (h1 : Dp K H v d) : DpAll K H (vs ++ [v]) (ds ++ [d]) := da_app h (.cons h1 .nil)
theorem da_ints : ∀ {ns : List Int} {vs : List V}, DpAll K H vs (ns.map PyData.int) → vs = ns.map V.int
  | [], _, h => by cases h; rfl
  | n :: ns, _, h => by
    cases h with
    | cons h1 h2 =>
      cases h1
      rw [da_ints h2]
      rfl
theorem da_of_ints : ∀ (ns : List Int), DpAll K H (ns.map V.int) (ns.map PyData.int)
  | [] => .nil
  | n :: ns => .cons (.int n) (da_of_ints ns)
theorem nolAll_map {α : Type} {f : α → PyData} (h : ∀ a, nol (f a) = true) : ∀ (xs : List α), nolAll (xs.map f) = true
  | [] => rfl
  | x :: xs => by rw [List.map_cons, nolAll, h x, nolAll_map h xs]; rfl
theorem nolAll_append : ∀ {xs ys : List PyData}, nolAll xs = true → nolAll ys = true → nolAll (xs ++ ys) = true
  | [], _, _, h => h
  | x :: xs, ys, h1, h2 => by
    simp only [nolAll, Bool.and_eq_true] at h1
    rw [List.cons_append, nolAll, h1.1, nolAll_append h1.2 h2]; rfl
theorem nol_int (i : Int) : nol (.int i) = true := by simp [nol]
end
/-! ### the forms of this program's data -/
def eS (ns : List Int) : PyData := .tuple (ns.map PyData.int)
def eM (m : Tm.Mv) : PyData := .tuple [eS m.1, eS m.2]
def eMs (ms : List Tm.Mv) : PyData := .tuple (ms.map eM)
def eB (b : List Tm.St) : PyData := .list (b.map eS)
theorem nol_S (ns : List Int) : nol (eS ns) = true := by
  unfold eS
  rw [nol]
  exact nolAll_map nol_int ns
theorem nol_M (m : Tm.Mv) : nol (eM m) = true := by
  unfold eM
  rw [nol, nolAll, nol_S, nolAll, nol_S, nolAll]
  rfl
theorem nol_Ms (ms : List Tm.Mv) : nol (eMs ms) = true := by
  unfold eMs
  rw [nol]
  exact nolAll_map nol_M ms
section
variable {K : PySem.W.Frag} {H H' : Hp} {v : V}
theorem dp_int {i : Int} (h : Dp K H v (.int i)) : v = .int i := by cases h; rfl
theorem dp_bl {b : Bool} (h : Dp K H v (.bool b)) : v = .bl b := by cases h; rfl
theorem dp_str {x : Str} (h : Dp K H v (.str x)) : v = .str x := by cases h; rfl
theorem dp_non (h : Dp K H v .none) : v = .non := by cases h; rfl
theorem dp_tup {ds : List PyData} (h : Dp K H v (.tuple ds)) : ∃ a xs, v = .ref a ∧ SqT K H a xs ∧ DpAll K H xs ds := by
  cases h with
  | tup h1 h2 => exact ⟨_, _, rfl, h1, h2⟩
theorem dp_lst {ds : List PyData} (h : Dp K H v (.list ds)) : ∃ a xs, v = .ref a ∧ SqL K H a xs ∧ DpAll K H xs ds := by
  cases h with
  | lst h1 h2 => exact ⟨_, _, rfl, h1, h2⟩
theorem dp_S {ns : List Int} (h : Dp K H v (eS ns)) : ∃ a, v = .ref a ∧ SqT K H a (ns.map V.int) := by
  obtain ⟨a, xs, e, h1, h2⟩ := dp_tup h
  rw [da_ints h2] at h1
  exact ⟨a, e, h1⟩
theorem dp_of_S {a : Addr} {ns : List Int} (h : SqT K H a (ns.map V.int)) : Dp K H (.ref a) (eS ns) := .tup h (da_of_ints ns)
theorem dp_M {m : Tm.Mv} (h : Dp K H v (eM m)) : ∃ a x y, v = .ref a ∧ SqT K H a [x, y] ∧ Dp K H x (eS m.1) ∧ Dp K H y (eS m.2) := by
  obtain ⟨a, xs, e, h1, h2⟩ := dp_tup h
  cases h2 with
  | cons q1 h2 =>
    cases h2 with
    | cons q2 h2 =>
      cases h2
      exact ⟨a, _, _, e, h1, q1, q2⟩
end
/-! ### evaluation -/
def ED (K : PySem.W.Frag) (te : TE) (σ : L2.St) (H : Hp) (d : PyData) : Prop := ∀ H1, Ex H H1 → ∀ Q : VK, (∀ v H2, Ex H1 H2 → Dp K H2 v d → Q v H2) → te σ H1 Q
/-- a new list -/
def EN (K : PySem.W.Frag) (te : TE) (σ : L2.St) (H : Hp) (ds : List PyData) : Prop := ∀ H1, Ex H H1 → ∀ Q : VK, (∀ p vs H2, H1 p = none → Ex H1 H2 → H2 p = some (.lst vs) → DpAll K H2 vs ds → Q (.ref p) H2) → te σ H1 Q
def EAs (K : PySem.W.Frag) (ta : TA) (σ : L2.St) (H : Hp) (ds : List PyData) : Prop := ∀ H1, Ex H H1 → ∀ Q : List V → Hp → Prop, (∀ vs H2, Ex H1 H2 → DpAll K H2 vs ds → Q vs H2) → ta σ H1 Q
def Nw (K : PySem.W.Frag) (H H' : Hp) (v : V) (r : PyData) : Prop := ∀ ds, r = .list ds → ∃ p vs, v = .ref p ∧ H p = none ∧ H' p = some (.lst vs) ∧ DpAll K H' vs ds
/-- a promise by data -/
def spD {α : Type} (K : PySem.W.Frag) (Pre : α → Prop) (arg : α → List PyData) (res : α → PyData) : Sp := fun vs H Q _ => ∃ a, DpAll K H vs (arg a) ∧ Pre a ∧ ∀ v H', Ex H H' → Dp K H' v (res a) → Nw K H H' v (res a) → Q v H'
/-- the same where only something is known of the answer -/
def spN {α : Type} (K : PySem.W.Frag) (Pre : α → Prop) (arg : α → List PyData) (res : α → PyData → Prop) : Sp := fun vs H Q _ => ∃ a, DpAll K H vs (arg a) ∧ Pre a ∧ ∀ r v H', res a r → Ex H H' → Dp K H' v r → Nw K H H' v r → Q v H'
section
variable {K : PySem.W.Frag} {σ : L2.St} {H H' : Hp} {ta tb te : TE} {tr : TA} {d e : PyData} {ds : List PyData} {v : V}
theorem ED.mono (x : Ex H H') (h : ED K te σ H d) : ED K te σ H' d := fun H1 a Q q => h H1 (x.trans a) Q q
theorem EN.mono (x : Ex H H') (h : EN K te σ H ds) : EN K te σ H' ds := fun H1 a Q q => h H1 (x.trans a) Q q
theorem EN.ed (h : EN K te σ H ds) : ED K te σ H (.list ds) := fun H1 a Q q => h H1 a Q fun p vs H2 _ e2 hp hd => q _ _ e2 (.lst (.inl (.inl hp)) hd)
theorem ed_ev (h : Ev te σ H v) (hd : Dp K H v d) : ED K te σ H d := fun H1 x Q q => h H1 x Q fun H2 e2 => q v H2 e2 (dp_mono (x.trans e2) hd)
theorem iv {i : Int} (h : ED K te σ H (.int i)) : Ev te σ H (.int i) := fun H1 x Q q => h H1 x Q fun v H2 e2 hv => by rw [dp_int hv]; exact q H2 e2
theorem bv {b : Bool} (h : ED K te σ H (.bool b)) : Ev te σ H (.bl b) := fun H1 x Q q => h H1 x Q fun v H2 e2 hv => by rw [dp_bl hv]; exact q H2 e2
theorem sv {x : Str} (h : ED K te σ H (.str x)) : Ev te σ H (.str x) := fun H1 a Q q => h H1 a Q fun v H2 e2 hv => by rw [dp_str hv]; exact q H2 e2
theorem di {i : Int} (h : Ev te σ H (.int i)) : ED K te σ H (.int i) := ed_ev h (.int i)
theorem db {b : Bool} (h : Ev te σ H (.bl b)) : ED K te σ H (.bool b) := ed_ev h (.bl b)
theorem ed_var {i : Nat} (h : σ[i]? = some (some v)) (hd : Dp K H v d) : ED K (tVar i) σ H d := ed_ev (ev_var h) hd
theorem ed_int {i : Int} : ED K (tC (.int i)) σ H (.int i) := ed_ev ev_c (.int i)
theorem ed_bl {b : Bool} : ED K (tC (.bl b)) σ H (.bool b) := ed_ev ev_c (.bl b)
theorem ed_str {x : Str} : ED K (tC (.str x)) σ H (.str x) := ed_ev ev_c (.str x)
theorem ed_non : ED K (tC .non) σ H .none := ed_ev ev_c .non
theorem ed_I0 {g : Int → Int → Int} {i j : Int} (ha : ED K ta σ H (.int i)) (hb : ED K tb σ H (.int j)) : ED K (tOp (rI0 fun i j => .int (g i j)) ta tb) σ H (.int (g i j)) := di (ev_op (iv ha) (iv hb) rv_I0)
theorem ed_B0 {g : Int → Int → Bool} {i j : Int} (ha : ED K ta σ H (.int i)) (hb : ED K tb σ H (.int j)) : ED K (tOp (rI0 fun i j => .bl (g i j)) ta tb) σ H (.bool (g i j)) := db (ev_op (iv ha) (iv hb) rv_I0)
theorem ed_I {C : Int → Int → Prop} {g : Int → Int → Int} {i j : Int} (ha : ED K ta σ H (.int i)) (hb : ED K tb σ H (.int j)) (hc : C i j) : ED K (tOp (rI C fun i j => .int (g i j)) ta tb) σ H (.int (g i j)) := di (ev_op (iv ha) (iv hb) (rv_I hc))
theorem ea_nil : EAs K tNil σ H [] := fun H1 _ _ q => q [] H1 (Ex.refl H1) .nil
theorem ea_cons (h : ED K te σ H d) (hr : EAs K tr σ H ds) : EAs K (tCons te tr) σ H (d :: ds) := fun H1 x Q q =>
  h H1 x _ fun v H2 e2 hv => hr H2 (x.trans e2) _ fun vs H3 e3 hvs => q (v :: vs) H3 (e2.trans e3) (.cons (dp_mono e3 hv) hvs)
theorem ed_tup (h : EAs K tr σ H ds) (hl : ds.length ≤ 100000) : ED K (tTup tr) σ H (.tuple ds) := fun H1 x Q q =>
  h H1 x _ fun vs H2 e2 hvs => ⟨sz_of (by rw [da_length hvs]; exact hl), fun p hp => q _ _ (e2.trans (Ex.new hp)) (.tup (.inl (.inl upd_same)) (da_mono (Ex.new hp) hvs))⟩
theorem en_lst (h : EAs K tr σ H ds) (hl : ds.length ≤ 100000) : EN K (tLst tr) σ H ds := fun H1 x Q q =>
  h H1 x _ fun vs H2 e2 hvs => ⟨sz_of (by rw [da_length hvs]; exact hl), fun p hp => q _ _ _ (fresh_back e2 hp) (e2.trans (Ex.new hp)) upd_same (da_mono (Ex.new hp) hvs)⟩
theorem da_at {vs : List V} {k : Int} (h : DpAll K H vs ds) (hk : atI ds k = some d) : ∃ v, atI vs k = some v ∧ Dp K H v d := by
  unfold atI at hk ⊢
  rw [da_length h]
  cases q : ixN ds.length k with
  | none => rw [q] at hk; cases hk
  | some j =>
    rw [q] at hk
    exact da_get h hk
theorem ed_ixT {k : Int} (ha : ED K ta σ H (.tuple ds)) (hb : ED K tb σ H (.int k)) (hk : atI ds k = some d) : ED K (tOp (rIxT K) ta tb) σ H d := fun H1 x Q q =>
  ha H1 x _ fun v H2 e2 hv => iv hb H2 (x.trans e2) _ fun H3 e3 => by
    obtain ⟨a, xs, rfl, h1, h2⟩ := dp_tup hv
    obtain ⟨w, hw, hd⟩ := da_at h2 hk
    exact ⟨a, xs, k, w, rfl, rfl, ex_t e3 h1, hw, q w H3 (e2.trans e3) (dp_mono e3 hd)⟩
theorem ed_ixL {k : Int} (ha : ED K ta σ H (.list ds)) (hb : ED K tb σ H (.int k)) (hk : atI ds k = some d) : ED K (tOp (rIxL K) ta tb) σ H d := fun H1 x Q q =>
  ha H1 x _ fun v H2 e2 hv => iv hb H2 (x.trans e2) _ fun H3 e3 => by
    obtain ⟨a, xs, rfl, h1, h2⟩ := dp_lst hv
    obtain ⟨w, hw, hd⟩ := da_at h2 hk
    exact ⟨a, xs, k, w, rfl, rfl, ex_l e3 h1, hw, q w H3 (e2.trans e3) (dp_mono e3 hd)⟩
theorem ed_eqD (ha : ED K ta σ H d) (hb : ED K tb σ H e) (sd : SeqAt.shaped d = true) (se : SeqAt.shaped e = true) : ED K (tOp (rEqD K) ta tb) σ H (.bool (PyData.eqv d e)) := fun H1 x Q q =>
  ha H1 x _ fun v H2 e2 hv => hb H2 (x.trans e2) _ fun w H3 e3 hw => ⟨d, e, dp_mono e3 hv, hw, sd, se, q _ H3 (e2.trans e3) (.bl _)⟩
theorem ed_neD (ha : ED K ta σ H d) (hb : ED K tb σ H e) (sd : SeqAt.shaped d = true) (se : SeqAt.shaped e = true) : ED K (tOp (rNeD K) ta tb) σ H (.bool (!PyData.eqv d e)) := fun H1 x Q q =>
  ha H1 x _ fun v H2 e2 hv => hb H2 (x.trans e2) _ fun w H3 e3 hw => ⟨d, e, dp_mono e3 hv, hw, sd, se, q _ H3 (e2.trans e3) (.bl _)⟩
theorem ed_eqS {x y : Str} (ha : ED K ta σ H (.str x)) (hb : ED K tb σ H (.str y)) : ED K (tOp rEq ta tb) σ H (.bool (decide (x = y))) := fun H1 a Q q =>
  sv ha H1 a _ fun H2 e2 => sv hb H2 (a.trans e2) _ fun H3 e3 => ⟨rfl, by
    have := q (.bl (decide (x = y))) H3 (e2.trans e3) (.bl _)
    rw [show decide ((V.str x) = V.str y) = decide (x = y) by simp]
    exact this⟩
theorem ed_neS {x y : Str} (ha : ED K ta σ H (.str x)) (hb : ED K tb σ H (.str y)) : ED K (tOp rNe ta tb) σ H (.bool (!decide (x = y))) := fun H1 a Q q =>
  sv ha H1 a _ fun H2 e2 => sv hb H2 (a.trans e2) _ fun H3 e3 => ⟨rfl, by
    have := q (.bl (!decide (x = y))) H3 (e2.trans e3) (.bl _)
    rw [show decide ((V.str x) = V.str y) = decide (x = y) by simp]
    exact this⟩
theorem ed_eqI {x y : Int} (ha : ED K ta σ H (.int x)) (hb : ED K tb σ H (.int y)) : ED K (tOp rEq ta tb) σ H (.bool (decide (x = y))) := fun H1 a Q q =>
  iv ha H1 a _ fun H2 e2 => iv hb H2 (a.trans e2) _ fun H3 e3 => ⟨rfl, by
    have := q (.bl (decide (x = y))) H3 (e2.trans e3) (.bl _)
    rw [show decide ((V.int x) = V.int y) = decide (x = y) by simp]
    exact this⟩
theorem ed_call {α : Type} {Pre : α → Prop} {arg : α → List PyData} {res : α → PyData} {E : XK} (a : α) (ha : EAs K tr σ H (arg a)) (hp : Pre a) : ED K (tCall (spD K Pre arg res) [] E tr) σ H (res a) := fun H1 x Q q =>
  ha H1 x _ fun vs H2 e2 hvs => ⟨a, by rw [List.append_nil]; exact hvs, hp, fun v H3 e3 hv _ => q v H3 (e2.trans e3) hv⟩
theorem en_call {α : Type} {Pre : α → Prop} {arg : α → List PyData} {res : α → PyData} {E : XK} (a : α) (ha : EAs K tr σ H (arg a)) (hp : Pre a) (hr : res a = .list ds) : EN K (tCall (spD K Pre arg res) [] E tr) σ H ds := fun H1 x Q q =>
  ha H1 x _ fun vs H2 e2 hvs => ⟨a, by rw [List.append_nil]; exact hvs, hp, fun v H3 e3 hv hn => by
    obtain ⟨p, ws, rfl, n1, n2, n3⟩ := hn ds hr
    exact q p ws H3 (fresh_back e2 n1) (e2.trans e3) n2 n3⟩
theorem ed_is (h : ED K te σ H d) (x : d = e) : ED K te σ H e := x ▸ h
theorem nw_of {r : PyData} (h : ∀ ds, r ≠ .list ds) : Nw K H H' v r := fun ds x => absurd x (h ds)
theorem nw_list {p : Addr} {vs : List V} (h1 : H p = none) (h2 : H' p = some (.lst vs)) (h3 : DpAll K H' vs ds) : Nw K H H' (.ref p) (.list ds) := fun es x => by
  injection x with x
  subst x
  exact ⟨p, vs, rfl, h1, h2, h3⟩
theorem Nw.back {H0 : Hp} {r : PyData} (x : Ex H0 H) (h : Nw K H H' v r) : Nw K H0 H' v r := fun ds y => by
  obtain ⟨p, vs, a, b, c, f⟩ := h ds y
  exact ⟨p, vs, a, fresh_back x b, c, f⟩
/-- tuple([..]), tuple of a list or of a tuple -/
def rTupOf (K : PySem.W.Frag) : List V → Hp → VK → Prop := fun xs H Q => ∃ p ys, xs = [.ref p] ∧ ((SqL K H p ys ∧ ∀ l, H l = none → Q (.ref l) (upd H l (.tup ys))) ∨ (SqT K H p ys ∧ Q (.ref p) H))
theorem ed_tuple (h : ED K te σ H (.list ds)) : ED K (tCB (rTupOf K) (tCons te tNil)) σ H (.tuple ds) := fun H1 x Q q =>
  h H1 x _ fun v H2 e2 hv => by
    obtain ⟨a, xs, rfl, h1, h2⟩ := dp_lst hv
    exact ⟨a, xs, rfl, .inl ⟨h1, fun l hl => q _ _ (e2.trans (Ex.new hl)) (.tup (.inl (.inl upd_same)) (da_mono (Ex.new hl) h2))⟩⟩
theorem en_listT (h : ED K te σ H (.tuple ds)) : EN K (tCB (rListS K) (tCons te tNil)) σ H ds := fun H1 x Q q =>
  h H1 x _ fun v H2 e2 hv => by
    obtain ⟨a, xs, rfl, h1, h2⟩ := dp_tup hv
    exact ⟨a, xs, rfl, .inr h1, fun l hl => q _ _ _ (fresh_back e2 hl) (e2.trans (Ex.new hl)) upd_same (da_mono (Ex.new hl) h2)⟩
theorem ed_lenL (h : ED K te σ H (.list ds)) : ED K (tCB (rLenS K) (tCons te tNil)) σ H (.int ds.length) := fun H1 x Q q =>
  h H1 x _ fun v H2 e2 hv => by
    obtain ⟨a, xs, rfl, h1, h2⟩ := dp_lst hv
    exact ⟨a, xs, rfl, .inl h1, q _ _ e2 (by rw [da_length h2]; exact .int _)⟩
theorem ed_lenT (h : ED K te σ H (.tuple ds)) : ED K (tCB (rLenS K) (tCons te tNil)) σ H (.int ds.length) := fun H1 x Q q =>
  h H1 x _ fun v H2 e2 hv => by
    obtain ⟨a, xs, rfl, h1, h2⟩ := dp_tup hv
    exact ⟨a, xs, rfl, .inr h1, q _ _ e2 (by rw [da_length h2]; exact .int _)⟩
theorem ed_max {i j : Int} (ha : ED K ta σ H (.int i)) (hb : ED K tb σ H (.int j)) : ED K (tCB rMax2 (tCons ta (tCons tb tNil))) σ H (.int (if j > i then j else i)) := di (ev_max2 (iv ha) (iv hb))
def rMin2 : List V → Hp → VK → Prop := fun xs H Q => ∃ i j, xs = [.int i, .int j] ∧ Q (.int (if j < i then j else i)) H
theorem ed_min {i j : Int} (ha : ED K ta σ H (.int i)) (hb : ED K tb σ H (.int j)) : ED K (tCB rMin2 (tCons ta (tCons tb tNil))) σ H (.int (if j < i then j else i)) := fun H1 x Q q =>
  iv ha H1 x _ fun H2 e2 => iv hb H2 (x.trans e2) _ fun H3 e3 => ⟨i, j, rfl, q _ H3 (e2.trans e3) (.int _)⟩
/-! statements -/
variable {D : Ends} {tu tw tz : TS} {g : TG} {t : TT}
theorem q_asgD {i : Nat} (h : ED K te σ H d) (k : ∀ v H1, Ex H H1 → Dp K H1 v d → tz D (σ.set i (some v)) H1) : tSeq (tAsg te (gName i)) tz D σ H := h H (Ex.refl H) _ k
theorem s_asgD {i : Nat} (h : ED K te σ H d) (k : ∀ v H1, Ex H H1 → Dp K H1 v d → D.nx (σ.set i (some v)) H1) : tAsg te (gName i) D σ H := h H (Ex.refl H) _ k
theorem q_asgN {i : Nat} (h : EN K te σ H ds) (k : ∀ p vs H1, H p = none → Ex H H1 → H1 p = some (.lst vs) → DpAll K H1 vs ds → tz D (σ.set i (some (.ref p))) H1) : tSeq (tAsg te (gName i)) tz D σ H := h H (Ex.refl H) _ k
theorem s_asgN {i : Nat} (h : EN K te σ H ds) (k : ∀ p vs H1, H p = none → Ex H H1 → H1 p = some (.lst vs) → DpAll K H1 vs ds → D.nx (σ.set i (some (.ref p))) H1) : tAsg te (gName i) D σ H := h H (Ex.refl H) _ k
theorem s_retD (h : ED K te σ H d) (k : ∀ v H1, Ex H H1 → Dp K H1 v d → D.rt v H1) : tRet te D σ H := h H (Ex.refl H) _ k
theorem s_retN (h : EN K te σ H ds) (k : ∀ p vs H1, H p = none → Ex H H1 → H1 p = some (.lst vs) → DpAll K H1 vs ds → D.rt (.ref p) H1) : tRet te D σ H := h H (Ex.refl H) _ k
theorem et_D {b : Bool} (h : ED K te σ H (.bool b)) : EvT (tB te) σ H b := et_B (bv h)
theorem et_T {b : Bool} (h : ED K te σ H (.bool b)) : EvT (tTest te) σ H b := et_test (bv h)
/-- xs.append(e) -/
theorem s_appD {l : Addr} {xs : List V} {i : Nat} (hl : H l = some (.lst xs)) (hi : σ[i]? = some (some (.ref l))) (h : ED K te σ H d) (hz : xs.length < 100000) (k : ∀ v H1, Ex H H1 → Dp K H1 v d → D.nx σ (upd H1 l (.lst (xs ++ [v])))) :
    tDrop (tBM K "list" rAppend (tVar i) (tCons te tNil)) D σ H :=
  ⟨.ref l, hi, Or.inl ⟨rfl, xs, sq_of hl⟩, h H (Ex.refl H) _ fun v H2 e2 hv => ⟨l, xs, v, rfl, rfl, e2 l _ hl, sz_lt hz, k v H2 e2 hv⟩⟩
theorem q_appD {l : Addr} {xs : List V} {i : Nat} (hl : H l = some (.lst xs)) (hi : σ[i]? = some (some (.ref l))) (h : ED K te σ H d) (hz : xs.length < 100000) (k : ∀ v H1, Ex H H1 → Dp K H1 v d → tz D σ (upd H1 l (.lst (xs ++ [v])))) :
    tSeq (tDrop (tBM K "list" rAppend (tVar i) (tCons te tNil))) tz D σ H := s_appD (D := { D with nx := tz D }) hl hi h hz k
theorem filt {α : Type} (xs : List α) : xs.filter (fun _ => true) = xs := List.filter_eq_self.mpr fun _ _ => rfl
/-! comprehensions -/
theorem lc_turns {α : Type} {J : It} {G : Hp → Prop} {Y : Nat → Hp → V → Hp → Prop} (xs : List α) (w : Walk J xs.length G Y) {tt : TT} {js : List Nat} {H1 : Hp} {L : Addr} (hD : H1 L = none) (hn : xs.length ≤ 40000) (hG : ∀ H, Ex H1 H → G H)
    (f : α → Bool) (o : α → PyData) (nl : ∀ a, nol (o a) = true)
    (ht : ∀ i a x H H', xs[i]? = some a → Ex H1 H → Y i H x H' → ∃ σ2 H2, (∀ R : L2.St → Hp → Prop, R σ2 H2 → g x (wipe σ js) H' R) ∧ Ex H H2 ∧ wipe σ2 js = wipe σ js ∧ EvT tt σ2 H2 (f a) ∧ (f a = true → ED K te σ2 H2 (o a)))
    {Qd : Hp → Prop} (q : ∀ vs H, Ex H1 H → H L = some (.lst vs) → DpAll K H vs ((xs.filter f).map o) → Qd H) :
    ∃ W : Nat → Nat → Hp → Prop, (∃ m, W 0 m (upd H1 L (.lst []))) ∧ ∀ i m H, W i m H →
      (J.stop i H ∧ Qd H) ∨ (J.go i H ∧ ∃ Nx : Hp → Prop, (∀ H', Nx H' → ∃ m', m' < m ∧ W (i + 1) m' H') ∧ ∀ x H', J.yld i H x H' → g x (wipe σ js) H' fun σ2 H2 => wipe σ2 js = wipe σ js ∧ tt σ2 H2 fun b H3 =>
        if b = true then te σ2 H3 fun y H4 => ∃ acc, H4 L = some (.lst acc) ∧ acc.length < sizeLine ∧ Nx (upd H4 L (.lst (acc ++ [y]))) else Nx H3) := by
  refine lc_it w (fun i H => Ex H1 H ∧ ∃ vs, H L = some (.lst vs) ∧ DpAll K H vs (((xs.take i).filter f).map o)) ⟨Ex.new hD, [], upd_same, .nil⟩ (fun i H _ p => hG H p.1) (fun i x H H' hi p y => ?_) (fun H p => ?_)
  · obtain ⟨p1, vs, p2, p3⟩ := p
    have ea : xs[i]? = some xs[i] := List.getElem?_eq_getElem hi
    obtain ⟨σ2, H2, r1, r2, r3, r4, r5⟩ := ht i xs[i] x H H' ea p1 y
    have et : xs.take (i + 1) = xs.take i ++ [xs[i]] := by rw [List.take_add_one, ea]; rfl
    refine r1 _ ⟨r3, r4 H2 (Ex.refl H2) _ fun H3 e3 => ?_⟩
    rw [et, List.filter_append, List.map_append]
    cases hf : f xs[i] with
    | true =>
      show te σ2 H3 _
      refine r5 hf H3 e3 _ fun v H4 e4 hv => ⟨vs, e4 _ _ (e3 _ _ (r2 _ _ p2)), ?_, Ex.mut (((p1.trans r2).trans e3).trans e4) hD, vs ++ [v], upd_same, ?_⟩
      · have l1 := da_length p3
        have l2 := List.length_filter_le f (xs.take i)
        rw [List.length_map] at l1
        rw [List.length_take] at l2
        exact sz_lt (by omega)
      · have hL : H4 L = some (.lst vs) := e4 _ _ (e3 _ _ (r2 _ _ p2))
        have z := da_upd (K := K) (o := .lst (vs ++ [v])) hL (ds := ((xs.take i).filter f).map o ++ [o xs[i]]) (vs := vs ++ [v]) (nolAll_append (nolAll_map nl _) (by rw [nolAll, nl]; rfl)) (da_snoc (da_mono ((r2.trans e3).trans e4) p3) hv)
        simpa [hf] using z
    | false =>
      show Ex H1 H3 ∧ _
      refine ⟨(p1.trans r2).trans e3, vs, e3 _ _ (r2 _ _ p2), ?_⟩
      have z := da_mono (r2.trans e3) p3
      simpa [hf] using z
  · obtain ⟨p1, vs, p2, p3⟩ := p
    rw [List.take_length] at p3
    exact q vs H p1 p2 p3
/-- over a list or a tuple, the target a name -/
theorem en_lcL {α : Type} {tl : TE} {tt : TT} {j : Nat} {js : List Nat} (xs : List α) (enc : α → PyData) (f : α → Bool) (o : α → PyData) (h : ED K tl σ H (.list (xs.map enc))) (hn : xs.length ≤ 40000) (nl : ∀ a, nol (o a) = true)
    (hw : ∀ x, wipe ((wipe σ js).set j (some x)) js = wipe σ js)
    (ht : ∀ a ∈ xs, ∀ x H1, Ex H H1 → Dp K H1 x (enc a) → EvT tt ((wipe σ js).set j (some x)) H1 (f a) ∧ (f a = true → ED K te ((wipe σ js).set j (some x)) H1 (o a))) :
    EN K (tLc (iList K tl) (gName j) tt te js) σ H ((xs.filter f).map o) := fun H0 x Q q => h H0 x _ fun v H1 e1 hv => by
  obtain ⟨a, vs, rfl, h1, h2⟩ := dp_lst hv
  have hl : vs.length = xs.length := by rw [da_length h2, List.length_map]
  refine ⟨a, rfl, ⟨vs, h1⟩, fun L hL => lc_turns xs (hl ▸ walk_list (K := K) (a := a) (xs := vs)) hL hn (fun H e => ex_l e h1) f o nl (fun i b y H2 H3 hb e2 hy => ?_) fun ws H2 e2 hL2 hd => q L ws H2 (fresh_back e1 hL) (e1.trans e2) hL2 hd⟩
  obtain ⟨rfl, hy⟩ := hy
  obtain ⟨y', g1, g2⟩ := da_get (i := i) (d := enc b) h2 (by rw [List.getElem?_map, hb]; rfl)
  rw [hy] at g1
  cases g1
  have := ht b (List.mem_of_getElem? hb) y H3 ((x.trans e1).trans e2) (dp_mono e2 g2)
  exact ⟨_, H3, fun R r => r, Ex.refl _, hw y, this.1, this.2⟩
theorem en_lcT {α : Type} {tl : TE} {tt : TT} {j : Nat} {js : List Nat} (xs : List α) (enc : α → PyData) (f : α → Bool) (o : α → PyData) (h : ED K tl σ H (.tuple (xs.map enc))) (hn : xs.length ≤ 40000) (nl : ∀ a, nol (o a) = true)
    (hw : ∀ x, wipe ((wipe σ js).set j (some x)) js = wipe σ js)
    (ht : ∀ a ∈ xs, ∀ x H1, Ex H H1 → Dp K H1 x (enc a) → EvT tt ((wipe σ js).set j (some x)) H1 (f a) ∧ (f a = true → ED K te ((wipe σ js).set j (some x)) H1 (o a))) :
    EN K (tLc (iTup K tl) (gName j) tt te js) σ H ((xs.filter f).map o) := fun H0 x Q q => h H0 x _ fun v H1 e1 hv => by
  obtain ⟨a, vs, rfl, h1, h2⟩ := dp_tup hv
  have hl : vs.length = xs.length := by rw [da_length h2, List.length_map]
  refine ⟨a, rfl, ⟨vs, h1⟩, fun L hL => lc_turns xs (hl ▸ walk_tup (K := K) (a := a) (xs := vs)) hL hn (fun H e => ex_t e h1) f o nl (fun i b y H2 H3 hb e2 hy => ?_) fun ws H2 e2 hL2 hd => q L ws H2 (fresh_back e1 hL) (e1.trans e2) hL2 hd⟩
  obtain ⟨rfl, hy⟩ := hy
  obtain ⟨y', g1, g2⟩ := da_get (i := i) (d := enc b) h2 (by rw [List.getElem?_map, hb]; rfl)
  rw [hy] at g1
  cases g1
  have := ht b (List.mem_of_getElem? hb) y H3 ((x.trans e1).trans e2) (dp_mono e2 g2)
  exact ⟨_, H3, fun R r => r, Ex.refl _, hw y, this.1, this.2⟩
theorem walk_zipT {a b : Addr} {xs ys : List V} (h : ys.length = xs.length) : Walk (RZ.ItzT K a b) xs.length (fun H => SqT K H a xs ∧ SqT K H b ys) (YPair (fun i => xs[i]?) (fun i => ys[i]?)) where
  goes := fun _ _ hi q => ⟨xs, ys, _, _, q.1, q.2, List.getElem?_eq_getElem hi, List.getElem?_eq_getElem (Nat.lt_of_lt_of_eq hi h.symm)⟩
  stops := fun _ q => ⟨xs, ys, q.1, q.2, by omega⟩
  yields := fun _ _ _ _ _ q y => by
    obtain ⟨T, u, v, e, nT, eH, eu, ev⟩ := y
    exact ⟨T, u, v, e, nT, eH, eu _ q.1, ev _ q.2⟩
def YTrip (xs ys zs : Nat → Option V) : Nat → Hp → V → Hp → Prop := fun i H v H' => ∃ T x y z, v = .ref T ∧ H T = none ∧ H' = upd H T (.tup [x, y, z]) ∧ xs i = some x ∧ ys i = some y ∧ zs i = some z
theorem walk_zip3 {a b c : Addr} {xs ys zs : List V} (h1 : ys.length = xs.length) (h2 : zs.length = xs.length) : Walk (Z3.Itz3 K a b c) xs.length (fun H => SqT K H a xs ∧ SqT K H b ys ∧ SqT K H c zs) (YTrip (fun i => xs[i]?) (fun i => ys[i]?) (fun i => zs[i]?)) where
  goes := fun _ _ hi q => ⟨xs, ys, zs, _, _, _, q, List.getElem?_eq_getElem hi, List.getElem?_eq_getElem (Nat.lt_of_lt_of_eq hi h1.symm), List.getElem?_eq_getElem (Nat.lt_of_lt_of_eq hi h2.symm)⟩
  stops := fun _ q => ⟨xs, ys, zs, q, Nat.le_refl _⟩
  yields := fun _ _ _ _ _ q y => by
    obtain ⟨T, u, v, w, ⟨e, nT, eH⟩, eu, ev, ew⟩ := y
    exact ⟨T, u, v, w, e, nT, eH, eu _ q.1, ev _ q.2.1, ew _ q.2.2⟩
/-- over zip of two tuples of ints of one length, an int each -/
theorem en_lcZ {tt : TT} {j k : Nat} {js : List Nat} (zs : List (Int × Int)) (o : Int × Int → Int) (ha : EAs K tr σ H [eS (zs.map (·.1)), eS (zs.map (·.2))]) (hn : zs.length ≤ 40000)
    (hw : ∀ x y, wipe (((wipe σ js).set j (some x)).set k (some y)) js = wipe σ js)
    (ht : ∀ p ∈ zs, ∀ H1, EvT tt (((wipe σ js).set j (some (.int p.1))).set k (some (.int p.2))) H1 true ∧ ED K te (((wipe σ js).set j (some (.int p.1))).set k (some (.int p.2))) H1 (.int (o p))) :
    EN K (tLc (RZ.iZipA K tr) (gTup K 2 (gCons (gName j) (gCons (gName k) gNil))) tt te js) σ H (zs.map fun p => .int (o p)) := fun H0 x Q q => ha H0 x _ fun us H1 e1 hu => by
  cases hu with
  | cons u1 hu =>
    cases hu with
    | cons u2 hu =>
      cases hu
      obtain ⟨a, rfl, h1⟩ := dp_S u1
      obtain ⟨b, rfl, h2⟩ := dp_S u2
      have l1 : ((zs.map (·.1)).map V.int).length = zs.length := by rw [List.length_map, List.length_map]
      have w2 := walk_zipT (K := K) (a := a) (b := b) (xs := (zs.map (·.1)).map V.int) (ys := (zs.map (·.2)).map V.int) (by simp)
      rw [l1] at w2
      refine ⟨a, b, _, _, rfl, .inr ⟨h1, h2, fun L hL => lc_turns zs w2 hL hn (fun H e => ⟨ex_t e h1, ex_t e h2⟩) (fun _ => true) (fun p => .int (o p)) (fun _ => nol_int _)
        (fun i p y H2 H3 hp e2 hy => ?_) fun ws H2 e2 hL2 hd => q L ws H2 (fresh_back e1 hL) (e1.trans e2) hL2 (by rw [filt] at hd; exact hd)⟩⟩
      obtain ⟨T, y1, y2, rfl, nT, rfl, f1, f2⟩ := hy
      have f1 : ((zs.map (·.1)).map V.int)[i]? = some y1 := f1
      have f2 : ((zs.map (·.2)).map V.int)[i]? = some y2 := f2
      rw [List.getElem?_map, List.getElem?_map, hp] at f1 f2
      cases f1
      cases f2
      have := ht p (List.mem_of_getElem? hp) (upd H2 T (.tup [.int p.1, .int p.2]))
      exact ⟨_, _, fun R r => ⟨T, _, rfl, .inl (.inl upd_same), rfl, _, _, rfl, _, _, rfl, rfl, r⟩, Ex.new nT, hw _ _, this.1, fun _ => this.2⟩
/-- over zip of three -/
theorem en_lcZ3 {tt : TT} {j k l : Nat} {js : List Nat} (zs : List (Int × Int × Int)) (o : Int × Int × Int → Int) (ha : EAs K tr σ H [eS (zs.map (·.1)), eS (zs.map (·.2.1)), eS (zs.map (·.2.2))]) (hn : zs.length ≤ 40000)
    (hw : ∀ x y z, wipe ((((wipe σ js).set j (some x)).set k (some y)).set l (some z)) js = wipe σ js)
    (ht : ∀ p ∈ zs, ∀ H1, EvT tt ((((wipe σ js).set j (some (.int p.1))).set k (some (.int p.2.1))).set l (some (.int p.2.2))) H1 true ∧ ED K te ((((wipe σ js).set j (some (.int p.1))).set k (some (.int p.2.1))).set l (some (.int p.2.2))) H1 (.int (o p))) :
    EN K (tLc (Z3.iZip3 K tr) (gTup K 3 (gCons (gName j) (gCons (gName k) (gCons (gName l) gNil)))) tt te js) σ H (zs.map fun p => .int (o p)) := fun H0 x Q q => ha H0 x _ fun us H1 e1 hu => by
  cases hu with
  | cons u1 hu =>
    cases hu with
    | cons u2 hu =>
      cases hu with
      | cons u3 hu =>
        cases hu
        obtain ⟨a, rfl, h1⟩ := dp_S u1
        obtain ⟨b, rfl, h2⟩ := dp_S u2
        obtain ⟨c, rfl, h3⟩ := dp_S u3
        have l1 : ((zs.map (·.1)).map V.int).length = zs.length := by rw [List.length_map, List.length_map]
        have w3 := walk_zip3 (K := K) (a := a) (b := b) (c := c) (xs := (zs.map (·.1)).map V.int) (ys := (zs.map (·.2.1)).map V.int) (zs := (zs.map (·.2.2)).map V.int) (by simp) (by simp)
        rw [l1] at w3
        refine ⟨a, b, c, _, _, _, rfl, ⟨h1, h2, h3⟩, fun L hL => lc_turns zs w3 hL hn (fun H e => ⟨ex_t e h1, ex_t e h2, ex_t e h3⟩) (fun _ => true) (fun p => .int (o p)) (fun _ => nol_int _)
          (fun i p y H2 H3 hp e2 hy => ?_) fun ws H2 e2 hL2 hd => q L ws H2 (fresh_back e1 hL) (e1.trans e2) hL2 (by rw [filt] at hd; exact hd)⟩
        obtain ⟨T, y1, y2, y3, rfl, nT, rfl, f1, f2, f3⟩ := hy
        have f1 : ((zs.map (·.1)).map V.int)[i]? = some y1 := f1
        have f2 : ((zs.map (·.2.1)).map V.int)[i]? = some y2 := f2
        have f3 : ((zs.map (·.2.2)).map V.int)[i]? = some y3 := f3
        rw [List.getElem?_map, List.getElem?_map, hp] at f1 f2 f3
        cases f1
        cases f2
        cases f3
        have := ht p (List.mem_of_getElem? hp) (upd H2 T (.tup [.int p.1, .int p.2.1, .int p.2.2]))
        exact ⟨_, _, fun R r => ⟨T, _, rfl, .inl (.inl upd_same), rfl, _, _, rfl, _, _, rfl, _, _, rfl, rfl, r⟩, Ex.new nT, hw _ _ _, this.1, fun _ => this.2⟩
theorem et_yes : EvT tYes σ H true := fun H1 _ _ q => q H1 (Ex.refl H1)
end
end TK
/-! sorted of tuples, == of data, slices. -/
namespace TK
open PySem PySem.Spec PyProof.Rows L2 Evl
/-! ### the order by code is the order of tuples -/
theorem lex_of_code {B : Int} : ∀ {n m : List Int}, n.length = m.length → TS.Bd B n → TS.Bd B m → TS.code B n ≤ TS.code B m → Tm.rowLe n m = true
  | [], _, _, _, _, _ => by simp [Tm.rowLe]
  | _ :: _, [], h, _, _, _ => by simp at h
  | x :: n, y :: m, h, hn, hm, hc => by
    have hl : n.length = m.length := by simpa using h
    simp only [Tm.rowLe]
    by_cases h1 : x < y
    · rw [if_pos h1]
    · rw [if_neg h1]
      by_cases h2 : y < x
      · have := TS.code_lt (B := B) hl.symm hm.tail hn.tail h2
        omega
      · rw [if_neg h2]
        have e : x = y := by omega
        subst e
        refine lex_of_code hl hn.tail hm.tail ?_
        have := (TS.code_same (B := B) (d := x) hl.symm).mpr
        by_cases q : TS.code B m < TS.code B n
        · have := this q; omega
        · omega
section
variable {K : PySem.W.Frag} {σ : L2.St} {H H' : Hp} {ta tb te : TE} {tr : TA} {d e : PyData} {ds : List PyData} {v : V}
theorem da_perm {α : Type} {f : α → PyData} {xs ys : List V} (p : ys.Perm xs) : ∀ (nss : List α), DpAll K H xs (nss.map f) → ∃ mss : List α, mss.Perm nss ∧ DpAll K H ys (mss.map f) := by
  induction p with
  | nil =>
    intro nss h
    cases nss with
    | nil => exact ⟨[], .refl _, h⟩
    | cons a l => cases h
  | cons x p ih =>
    intro nss h
    cases nss with
    | nil => cases h
    | cons a l =>
      cases h with
      | cons h1 h2 =>
        obtain ⟨mss, p', h'⟩ := ih l h2
        exact ⟨a :: mss, p'.cons a, .cons h1 h'⟩
  | swap x y l =>
    intro nss h
    cases nss with
    | nil => cases h
    | cons a nss =>
      cases h with
      | cons h1 h =>
        cases nss with
        | nil => cases h
        | cons b nss =>
          cases h with
          | cons h2 h => exact ⟨b :: a :: nss, .swap a b nss, .cons h2 (.cons h1 h)⟩
  | trans p q ih1 ih2 =>
    intro nss h
    obtain ⟨mss, p', h'⟩ := ih2 nss h
    obtain ⟨lss, p'', h''⟩ := ih1 mss h'
    exact ⟨lss, p''.trans p', h''⟩
theorem tupI_of {x : V} {ns : List Int} (h : Dp K H x (eS ns)) : TupI K H x ns := dp_S h
theorem da_mem {α : Type} {f : α → PyData} : ∀ {xs : List V} {nss : List α}, DpAll K H xs (nss.map f) → ∀ x ∈ xs, ∃ n ∈ nss, Dp K H x (f n)
  | _, [], .nil, x, hx => by simp at hx
  | _, n :: nss, .cons h1 h2, x, hx => by
    rcases List.mem_cons.mp hx with rfl | hx
    · exact ⟨n, List.mem_cons_self, h1⟩
    · obtain ⟨m, hm, hd⟩ := da_mem h2 x hx
      exact ⟨m, List.mem_cons_of_mem _ hm, hd⟩
theorem pair_code {B : Int} : ∀ {ys : List V} {mss : List (List Int)}, DpAll K H ys (mss.map eS) → ys.Pairwise (fun x y => ∀ n m, TupI K H x n → TupI K H y m → TS.code B n ≤ TS.code B m) → mss.Pairwise fun n m => TS.code B n ≤ TS.code B m
  | _, [], .nil, _ => List.Pairwise.nil
  | _, n :: mss, .cons h1 h2, hp => by
    have hp' := List.pairwise_cons.mp hp
    refine List.pairwise_cons.mpr ⟨fun m hm => ?_, pair_code h2 hp'.2⟩
    obtain ⟨i, hi, e⟩ := List.mem_iff_getElem.mp hm
    have g : (mss.map eS)[i]? = some (eS m) := by rw [List.getElem?_map, List.getElem?_eq_getElem hi, e]; rfl
    obtain ⟨y, hy, hd⟩ := da_get h2 g
    exact hp'.1 y (List.mem_of_getElem? hy) n m (tupI_of h1) (tupI_of hd)
/-- sorted of a list of tuples of ints -/
theorem en_sorted {B : Int} {k : Nat} {nss : List (List Int)} (hk : 1 ≤ k) (h : ED K te σ H (eB nss)) (h64 : nss.length < 64) (hl : Tm.Len k nss) (hp : Tm.Pos nss) (hB : ∀ ns ∈ nss, ∀ m ∈ ns, m < B) : EN K (tCB (rSortU K k B) (tCons te tNil)) σ H ((Tm.srt nss).map eS) := fun H1 x Q q =>
  h H1 x _ fun v H2 e2 hv => by
    obtain ⟨a, xs, rfl, h1, h2⟩ := dp_lst hv
    refine ⟨a, xs, rfl, h1, ?_, fun y hy => ?_, fun ys p perm pw hpn => ?_⟩
    · rw [da_length h2, List.length_map]; exact h64
    · obtain ⟨n, hn, hd⟩ := da_mem h2 y hy
      exact ⟨n, tupI_of hd, hl n hn, fun m hm => ⟨hp n hn m hm, hB n hn m hm⟩⟩
    · obtain ⟨mss, pm, hd⟩ := da_perm perm nss h2
      have up : Tm.Up mss := by
        refine List.Pairwise.imp_of_mem (fun {n m} hn hm hc => ?_) (pair_code hd pw)
        have hn' := pm.mem_iff.mp hn
        have hm' := pm.mem_iff.mp hm
        exact lex_of_code (by rw [hl n hn', hl m hm']) (fun z hz => ⟨hp n hn' z hz, hB n hn' z hz⟩) (fun z hz => ⟨hp m hm' z hz, hB m hm' z hz⟩) hc
      have em := Tm.srt_eq pm up
      rw [em] at hd
      exact q p ys _ (fresh_back e2 hpn) (e2.trans (Ex.new hpn)) upd_same (da_mono (Ex.new hpn) hd)
theorem le_foldl_max : ∀ (xs : List Int) (a : Int), a ≤ xs.foldl max a ∧ ∀ x ∈ xs, x ≤ xs.foldl max a
  | [], a => ⟨Int.le_refl _, fun x hx => by simp at hx⟩
  | y :: ys, a => by
    obtain ⟨h1, h2⟩ := le_foldl_max ys (max a y)
    refine ⟨by simp only [List.foldl_cons]; omega, fun x hx => ?_⟩
    simp only [List.foldl_cons]
    rcases List.mem_cons.mp hx with rfl | hx
    · omega
    · exact h2 x hx
theorem bound_of (nss : List (List Int)) : ∃ B : Int, ∀ ns ∈ nss, ∀ m ∈ ns, m < B := by
  refine ⟨nss.flatten.foldl max 0 + 1, fun ns h m hm => ?_⟩
  have := (le_foldl_max nss.flatten 0).2 m (List.mem_flatten.mpr ⟨ns, h, hm⟩)
  omega
/-! ### == of data -/
theorem eqvAll_map {α : Type} [DecidableEq α] {f : α → PyData} (h : ∀ a b, PyData.eqv (f a) (f b) = decide (a = b)) : ∀ xs ys : List α, PyData.eqvAll (xs.map f) (ys.map f) = decide (xs = ys)
  | [], [] => by simp [PyData.eqvAll]
  | [], _ :: _ => by simp [PyData.eqvAll]
  | _ :: _, [] => by simp [PyData.eqvAll]
  | x :: xs, y :: ys => by
    rw [List.map_cons, List.map_cons, PyData.eqvAll, h, eqvAll_map h xs ys]
    by_cases e : x = y
    · by_cases e2 : xs = ys <;> simp [e, e2]
    · simp [e]
theorem eqv_int (a b : Int) : PyData.eqv (.int a) (.int b) = decide (a = b) := by
  rw [PyData.eqv, Bool.beq_eq_decide_eq]
theorem eqv_S (a b : List Int) : PyData.eqv (eS a) (eS b) = decide (a = b) := by
  unfold eS
  rw [PyData.eqv, eqvAll_map eqv_int]
theorem eqv_B (a b : List (List Int)) : PyData.eqv (eB a) (eB b) = decide (a = b) := by
  unfold eB
  rw [PyData.eqv, eqvAll_map eqv_S]
/-- data of depth at most k that can be compared -/
def Fl (k : Nat) (d : PyData) : Prop := d.canLay0 = true ∧ d.depth ≤ k
theorem canAll {ds : List PyData} (h : ∀ d ∈ ds, d.canLay0 = true) : PyData.canLayAll0 ds = true := by
  induction ds with
  | nil => simp [PyData.canLayAll0]
  | cons d ds ih =>
    rw [PyData.canLayAll0, h d List.mem_cons_self, ih fun e he => h e (List.mem_cons_of_mem _ he)]
    rfl
theorem depthAll_le {k : Nat} {ds : List PyData} (h : ∀ d ∈ ds, d.depth ≤ k) : PyData.depthAll ds ≤ k := by
  induction ds with
  | nil => simp [PyData.depthAll]
  | cons d ds ih =>
    rw [PyData.depthAll]
    have h1 := h d List.mem_cons_self
    have h2 := ih fun e he => h e (List.mem_cons_of_mem _ he)
    omega
theorem fl_list {k : Nat} {ds : List PyData} (h : ∀ d ∈ ds, Fl k d) : Fl (k + 1) (.list ds) := by
  refine ⟨?_, ?_⟩
  · rw [PyData.canLay0]; exact canAll fun d hd => (h d hd).1
  · rw [PyData.depth]; have := depthAll_le fun d hd => (h d hd).2; omega
theorem fl_tup {k : Nat} {ds : List PyData} (h : ∀ d ∈ ds, Fl k d) : Fl (k + 1) (.tuple ds) := by
  refine ⟨?_, ?_⟩
  · rw [PyData.canLay0]; exact canAll fun d hd => (h d hd).1
  · rw [PyData.depth]; have := depthAll_le fun d hd => (h d hd).2; omega
theorem Fl.mono {k l : Nat} {d : PyData} (h : Fl k d) (x : k ≤ l) : Fl l d := ⟨h.1, Nat.le_trans h.2 x⟩
theorem fl_int (i : Int) : Fl 0 (.int i) := ⟨by simp [PyData.canLay0], by simp [PyData.depth]⟩
theorem fl_bl (b : Bool) : Fl 0 (.bool b) := ⟨by simp [PyData.canLay0], by simp [PyData.depth]⟩
theorem fl_non : Fl 0 .none := ⟨by simp [PyData.canLay0], by simp [PyData.depth]⟩
theorem fl_str {x : Str} (h : PyData.strOk x = true) : Fl 0 (.str x) := ⟨by simp [PyData.canLay0, h], by simp [PyData.depth]⟩
theorem fl_S (ns : List Int) : Fl 1 (eS ns) := fl_tup fun d hd => by
  obtain ⟨i, _, e⟩ := List.mem_map.mp hd
  subst e
  exact fl_int i
theorem fl_B (b : List (List Int)) : Fl 2 (eB b) := fl_list fun d hd => by
  obtain ⟨i, _, e⟩ := List.mem_map.mp hd
  subst e
  exact fl_S i
theorem Fl.shaped {k : Nat} {d : PyData} (h : Fl k d) (hk : k ≤ 64) : SeqAt.shaped d = true := by
  unfold SeqAt.shaped
  rw [h.1, decide_eq_true (Nat.le_trans h.2 hk)]
  rfl
theorem Fl.refl {k : Nat} {d : PyData} (h : Fl k d) : PyData.eqv d d = true := SeqAt.eqv_refl d h.1
/-! ### slices -/
def cutD (ds : List PyData) (lo hi : Option Int) : List PyData := (ds.drop (HT.sIx ds.length 0 lo)).take (HT.sIx ds.length ds.length hi - HT.sIx ds.length 0 lo)
theorem da_drop : ∀ {vs : List V} {ds : List PyData} (n : Nat), DpAll K H vs ds → DpAll K H (vs.drop n) (ds.drop n)
  | _, _, 0, h => h
  | _, _, _ + 1, .nil => .nil
  | _, _, n + 1, .cons _ t => da_drop n t
theorem da_take : ∀ {vs : List V} {ds : List PyData} (n : Nat), DpAll K H vs ds → DpAll K H (vs.take n) (ds.take n)
  | _, _, 0, _ => .nil
  | _, _, _ + 1, .nil => .nil
  | _, _, n + 1, .cons r t => .cons r (da_take n t)
theorem da_cut {vs : List V} {ds : List PyData} {lo hi : Option Int} (h : DpAll K H vs ds) : DpAll K H (cutV vs lo hi) (cutD ds lo hi) := by
  unfold cutV cutD
  rw [da_length h]
  exact da_take _ (da_drop _ h)
theorem en_slice {tl th : TO} {lo hi : Option Int} (h : ED K te σ H (.list ds)) (h1 : EvO tl σ H lo) (h2 : EvO th σ H hi) : EN K (tSl (rSlL K) te tl th) σ H (cutD ds lo hi) := fun H1 x Q q =>
  h H1 x _ fun v H2 e2 hv => h1 H2 (x.trans e2) _ fun H3 e3 => h2 H3 ((x.trans e2).trans e3) _ fun H4 e4 => by
    obtain ⟨a, xs, rfl, g1, g2⟩ := dp_lst hv
    exact ⟨a, xs, rfl, ex_l (e3.trans e4) g1, fun p hp => q p _ _ (fresh_back ((e2.trans e3).trans e4) hp) (((e2.trans e3).trans e4).trans (Ex.new hp)) upd_same (da_mono ((e3.trans e4).trans (Ex.new hp)) (da_cut g2))⟩
theorem cut_take (ds : List PyData) (n : Nat) : cutD ds none (some (n : Int)) = ds.take n := by
  unfold cutD
  rw [HT.sIx_none, HT.sIx_nat, List.drop_zero, Nat.sub_zero]
  by_cases h : n ≤ ds.length
  · rw [Nat.min_eq_left h]
  · rw [Nat.min_eq_right (by omega), List.take_of_length_le (by omega), List.take_of_length_le (by omega)]
theorem cut_mid (ds : List PyData) (m n : Nat) (h : m + n ≤ ds.length) : cutD ds (some (m : Int)) (some ((m + n : Nat) : Int)) = (ds.drop m).take n := by
  unfold cutD
  rw [HT.sIx_nat, HT.sIx_nat, Nat.min_eq_left h, Nat.min_eq_left (show m ≤ ds.length by omega), Nat.add_sub_cancel_left]
theorem cut_last (ds : List PyData) : cutD ds none (some (-1)) = ds.dropLast := by
  unfold cutD
  rw [HT.sIx_none, List.drop_zero, Nat.sub_zero, List.dropLast_eq_take]
  have : HT.sIx ds.length ds.length (some (-1)) = ds.length - 1 := by
    unfold HT.sIx
    simp only []
    split <;> omega
  rw [this]
end
end TK
namespace TK
open PySem PySem.Spec PyProof.Rows L2 Evl
def topS (i : Nat) : Stmt := PySem.Challenge.pw_tokenmoor_k27_whole_scaled_and_moved.main.body.getD i (.Pass ⟨0, 0, 0, 0⟩)
abbrev sCovers : Stmt := topS 4
abbrev sAble : Stmt := topS 5
abbrev sChange : Stmt := topS 6
abbrev sAfter : Stmt := topS 7
theorem scCovers : FnScope ["stand", "other", "have", "need"] ["stand", "other"] (defScope sCovers) := ⟨rfl, rfl, rfl, by decide +kernel, rfl, by decide +kernel, by decide +kernel⟩
theorem scAble : FnScope ["stand", "move"] ["stand", "move"] (defScope sAble) := ⟨rfl, rfl, rfl, by decide +kernel, rfl, by decide +kernel, by decide +kernel⟩
theorem scChange : FnScope ["move", "loss", "gain"] ["move"] (defScope sChange) := ⟨rfl, rfl, rfl, by decide +kernel, rfl, by decide +kernel, by decide +kernel⟩
theorem scAfter : FnScope ["stand", "move", "have", "more"] ["stand", "move"] (defScope sAfter) := ⟨rfl, rfl, rfl, by decide +kernel, rfl, by decide +kernel, by decide +kernel⟩
section
variable {P : Program} {w : World} {K : PySem.W.Frag} {mg : Str → Option Value} {base : Heap}
/-- a def of the top, as it stands and is called -/
structure At (K : PySem.W.Frag) (mg : Str → Option Value) (x : Str) (st : Stmt) (f : Addr) (fd : FuncData) (ps : List Str) : Prop where
  F : Fun K x x st f fd
  b : Binds K fd ps []
  g : mg x = some (.ref f)
/-! ### covers -/
def spCovers (K : PySem.W.Frag) : Sp := spD (α := Tm.St × Tm.St) K (fun a => a.1.length = a.2.length) (fun a => [eS a.1, eS a.2]) (fun a => .bool (Tm.covers a.1 a.2))
theorem covers_drop {x y : Tm.St} {i : Nat} {u v : Int} (hu : x[i]? = some u) (hv : y[i]? = some v) : Tm.covers (x.drop i) (y.drop i) = if u < v then false else Tm.covers (x.drop (i + 1)) (y.drop (i + 1)) := by
  obtain ⟨h1, e1⟩ := List.getElem?_eq_some_iff.mp hu
  obtain ⟨h2, e2⟩ := List.getElem?_eq_some_iff.mp hv
  rw [List.drop_eq_getElem_cons h1, List.drop_eq_getElem_cons h2, e1, e2]
  rfl
theorem ok_covers {f : Addr} {fd : FuncData} {k : Nat} (F : Fun K "covers" "covers" sCovers f fd) (mz : mg "zip" = none) : FnOk P w K mg base CX0 (k + 1) f fd ["stand", "other"] (spCovers K) := by
  refine F.ok scCovers (fun vs H Q E h => ?_) (fun cdv A outer s H vs Q E hr h => ?_)
  · obtain ⟨a, h, _⟩ := h; exact da_length h
  · obtain ⟨⟨x, y⟩, hd, hl, q⟩ := h
    have hl : x.length = y.length := hl
    cases hd with
    | cons d1 hd =>
    cases hd with
    | cons d2 hd =>
    cases hd
    obtain ⟨a, rfl, ha⟩ := dp_S d1
    obtain ⟨b, rfl, hb⟩ := dp_S d2
    refine ⟨_, pss_cons (ps_for PassesOwn.never rfl (RZ.pi_zipA (by rfl) mz (pa_cons (pv 0) (pa_cons (pv 1) pa_nil))) (pg_tup rfl (pgs_cons (pg_name (i := 2) scCovers.nd rfl (.inl rfl)) (pgs_cons (pg_name (i := 3) scCovers.nd rfl (.inl rfl)) pgs_nil)))
        (pss_one (ps_if (pt_cmpR op_lt (pv 2) (pv 3) (nomark _)) (pss_one (ps_ret pe_bl)) pss_nil)))
      (pss_one (ps_ret pe_bl)), ?_⟩
    refine ⟨.ref a, rfl, .ref b, rfl, a, b, _, _, rfl, .inr ⟨ha, hb, ?_⟩⟩
    refine RZ.for_zipT (K := K) (xs := x.map V.int) (ys := y.map V.int) (by simp [hl]) (fun i σ H' => (∃ y2 y3, σ = [some (.ref a), some (.ref b), y2, y3]) ∧ Ex H H' ∧ Tm.covers x y = Tm.covers (x.drop i) (y.drop i))
      ⟨⟨none, none, rfl⟩, Ex.refl H, rfl⟩ (fun i σ H' p => ⟨ex_t p.2.1 ha, ex_t p.2.1 hb⟩) (fun i u v T σ H' hu hv p hT => ?_) (fun σ H' p => ?_)
    · obtain ⟨⟨y2, y3, rfl⟩, e, hc⟩ := p
      rw [List.getElem?_map] at hu hv
      cases gu : x[i]? with
      | none => rw [gu] at hu; cases hu
      | some u' =>
      cases gv : y[i]? with
      | none => rw [gv] at hv; cases hv
      | some v' =>
      rw [gu] at hu
      rw [gv] at hv
      cases hu
      cases hv
      refine ⟨T, _, rfl, .inl (.inl upd_same), rfl, _, _, rfl, _, _, rfl, rfl, ?_⟩
      refine ⟨_, rfl, _, rfl, u', v', rfl, rfl, _, rfl, ite2 (fun c => ?_) (fun c => ?_)⟩
      · have c' : u' < v' := of_decide_eq_true c
        refine q _ _ (e.trans (Ex.new hT)) ?_ (nw_of fun ds z => by cases z)
        show Dp K _ _ (.bool (Tm.covers x y))
        rw [hc, covers_drop gu gv, if_pos c']
        exact .bl _
      · have c' : ¬ u' < v' := fun z => c (decide_eq_true z)
        refine ⟨⟨_, _, rfl⟩, e.trans (Ex.new hT), ?_⟩
        rw [hc, covers_drop gu gv, if_neg c']
    · obtain ⟨⟨y2, y3, rfl⟩, e, hc⟩ := p
      refine q _ _ e ?_ (nw_of fun ds z => by cases z)
      show Dp K _ _ (.bool (Tm.covers x y))
      rw [hc, List.length_map, List.drop_length]
      show Dp K _ _ (.bool true)
      exact .bl _
/-! ### able -/
def Dm (d : Nat) (m : Tm.Mv) : Prop := m.1.length = d ∧ m.2.length = d
def spAble (K : PySem.W.Frag) : Sp := spD (α := Tm.St × Tm.Mv) K (fun a => a.1.length = a.2.1.length) (fun a => [eS a.1, eM a.2]) (fun a => .bool (Tm.able a.1 a.2))
theorem ok_able {f fC : Addr} {fd fdC : FuncData} {k : Nat} (F : Fun K "able" "able" sAble f fd) (aC : At K mg "covers" sCovers fC fdC ["stand", "other"]) (GC : FnOk P w K mg base CX0 (k + 1) fC fdC ["stand", "other"] (spCovers K)) : FnOk P w K mg base CX0 (k + 1 + 1) f fd ["stand", "move"] (spAble K) := by
  refine F.ok scAble (fun vs H Q E h => ?_) (fun cdv A outer s H vs Q E hr h => ?_)
  · obtain ⟨a, h, _⟩ := h; exact da_length h
  · obtain ⟨⟨x, m⟩, hd, hl, q⟩ := h
    cases hd with
    | cons d1 hd =>
    cases hd with
    | cons d2 hd =>
    cases hd
    refine ⟨_, pss_one (ps_ret (pe_call GC hr (by rfl) aC.g aC.F.kp aC.b .nil pass0 (pa_cons (pv 0) (pa_cons (pe_ix ix_tup (pv 1) pe_int (fun _ _ => rfl)) pa_nil)))), ?_⟩
    refine s_retD (ed_call (K := K) (x, m.1) (ea_cons (ed_var rfl d1) (ea_cons (ed_ixT (ed_var rfl d2) ed_int (atI_nat (j := 0) rfl)) ea_nil)) hl) fun v H1 e hv => q v H1 e hv (nw_of fun ds z => by cases z)
/-! ### change -/
def spChange (K : PySem.W.Frag) : Sp := spD (α := Tm.Mv) K (fun a => a.1.length = a.2.length ∧ a.1.length ≤ 1000) (fun a => [eM a]) (fun a => eS (Tm.change a))
theorem subs_zip : ∀ l g : List Int, Tm.subs l g = (l.zip g).map fun p => p.2 - p.1
  | [], _ => by simp [Tm.subs]
  | _ :: _, [] => by simp [Tm.subs]
  | x :: l, y :: g => by simp [Tm.subs, subs_zip l g]
theorem adds_zip : ∀ l g : List Int, Tm.adds l g = (l.zip g).map fun p => p.1 + p.2
  | [], _ => by simp [Tm.adds]
  | _ :: _, [] => by simp [Tm.adds]
  | x :: l, y :: g => by simp [Tm.adds, adds_zip l g]
theorem zip_fst {l g : List Int} (h : l.length = g.length) : (l.zip g).map (·.1) = l := List.map_fst_zip (Nat.le_of_eq h)
theorem zip_snd {l g : List Int} (h : l.length = g.length) : (l.zip g).map (·.2) = g := List.map_snd_zip (Nat.le_of_eq h.symm)
theorem len_zip {l g : List Int} (h : l.length = g.length) : (l.zip g).length = l.length := by rw [List.length_zip]; omega
theorem ok_change {f : Addr} {fd : FuncData} {k : Nat} (F : Fun K "change" "change" sChange f fd) (mz : mg "zip" = none) (mt : mg "tuple" = none) : FnOk P w K mg base CX0 (k + 1) f fd ["move"] (spChange K) := by
  refine F.ok scChange (fun vs H Q E h => ?_) (fun cdv A outer s H vs Q E hr h => ?_)
  · obtain ⟨a, h, _⟩ := h; exact da_length h
  · obtain ⟨m, hd, ⟨hl, hz⟩, q⟩ := h
    cases hd with
    | cons d1 hd =>
    cases hd
    obtain ⟨a0, x0, y0, rfl, t1, t2, t3⟩ := dp_M d1
    refine ⟨_, pss_one (ps_ret (pe_callTy call_tuple_of (by rfl) mt (by decide +kernel) (pa_cons (pe_lc (own := [("loss", 1), ("gain", 2)]) (g := gTup K 2 (gCons (gName 1) (gCons (gName 2) gNil))) rfl scChange.nd
      (RZ.pi_zipA (by rfl) mz (pa_cons (pe_ix ix_tup (pv 0) pe_int (fun _ _ => rfl)) (pa_cons (pe_ix ix_tup (pv 0) pe_int (fun _ _ => rfl)) pa_nil)))
      (blkOk_by (N := ["move", "loss", "gain"]) (sc := defScope sChange) (by decide +kernel))
      (fun _ _ _ _ _ => pg_tup rfl (pgs_cons (pg_name (i := 1) scChange.nd rfl (.inl rfl)) (pgs_cons (pg_name (i := 2) scChange.nd rfl (.inl rfl)) pgs_nil)))
      (fun _ _ _ _ _ => pts_nil) (fun _ _ _ _ _ => pe_op op_sub (pv 2) (pv 1))) pa_nil))), ?_⟩
    have ea := ea_cons (K := K) (σ := start ["move", "loss", "gain"] [V.ref a0]) (H := H) (ed_ixT (ed_var (i := 0) rfl d1) ed_int (atI_nat (j := 0) rfl)) (ea_cons (ed_ixT (ed_var (i := 0) rfl d1) ed_int (atI_nat (j := 1) rfl)) ea_nil)
    have en := en_lcZ (K := K) (σ := start ["move", "loss", "gain"] [V.ref a0]) (H := H) (j := 1) (k := 2) (js := [1, 2]) (tt := tYes) (te := tOp (rI0 fun i j => .int (i - j)) (tVar 2) (tVar 1)) (m.1.zip m.2) (fun p => p.2 - p.1)
      (by rw [zip_fst hl, zip_snd hl]; exact ea) (by rw [len_zip hl]; omega) (fun _ _ => rfl) (fun p _ H1 => ⟨et_yes, ed_I0 (ed_var rfl (.int _)) (ed_var rfl (.int _))⟩)
    refine s_retD (ed_tuple en.ed) fun v H1 e hv => q v H1 e ?_ (nw_of fun ds z => by cases z)
    show Dp K _ _ (.tuple ((Tm.subs m.1 m.2).map PyData.int))
    rw [subs_zip, List.map_map]
    exact hv
/-! ### after -/
def spAfter (K : PySem.W.Frag) : Sp := spD (α := Tm.St × Tm.Mv) K (fun a => a.2.1.length = a.1.length ∧ a.2.2.length = a.1.length ∧ a.1.length ≤ 1000 ∧ Tm.able a.1 a.2 = true) (fun a => [eS a.1, eM a.2]) (fun a => eS (Tm.after a.1 a.2))
theorem ok_after {f fA fC : Addr} {fd fdA fdC : FuncData} {k : Nat} (F : Fun K "after" "after" sAfter f fd) (aA : At K mg "able" sAble fA fdA ["stand", "move"]) (GA : FnOk P w K mg base CX0 (k + 1) fA fdA ["stand", "move"] (spAble K))
    (aC : At K mg "change" sChange fC fdC ["move"]) (GC : FnOk P w K mg base CX0 (k + 1) fC fdC ["move"] (spChange K)) (mz : mg "zip" = none) (mt : mg "tuple" = none) : FnOk P w K mg base CX0 (k + 1 + 1) f fd ["stand", "move"] (spAfter K) := by
  refine F.ok scAfter (fun vs H Q E h => ?_) (fun cdv A outer s H vs Q E hr h => ?_)
  · obtain ⟨a, h, _⟩ := h; exact da_length h
  · obtain ⟨⟨x, m⟩, hd, ⟨hl1, hl2, hz, hab⟩, q⟩ := h
    have hl1 : m.1.length = x.length := hl1
    have hl2 : m.2.length = x.length := hl2
    have hz : x.length ≤ 1000 := hz
    have hab : Tm.able x m = true := hab
    cases hd with
    | cons d1 hd =>
    cases hd with
    | cons d2 hd =>
    cases hd
    rename_i v1 v2
    refine ⟨_, pss_cons (ps_if (pt_not (pt_val (pe_call GA hr (by rfl) aA.g aA.F.kp aA.b .nil pass0 (pa_cons (pv 0) (pa_cons (pv 1) pa_nil))))) (pss_one ps_never) pss_nil)
      (pss_one (ps_ret (pe_callTy call_tuple_of (by rfl) mt (by decide +kernel) (pa_cons (pe_lc (own := [("have", 2), ("more", 3)]) (g := gTup K 2 (gCons (gName 2) (gCons (gName 3) gNil))) rfl scAfter.nd
      (RZ.pi_zipA (by rfl) mz (pa_cons (pv 0) (pa_cons (pe_call GC hr (by rfl) aC.g aC.F.kp aC.b .nil pass0 (pa_cons (pv 1) pa_nil)) pa_nil)))
      (blkOk_by (N := ["stand", "move", "have", "more"]) (sc := defScope sAfter) (by decide +kernel))
      (fun _ _ _ _ _ => pg_tup rfl (pgs_cons (pg_name (i := 2) scAfter.nd rfl (.inl rfl)) (pgs_cons (pg_name (i := 3) scAfter.nd rfl (.inl rfl)) pgs_nil)))
      (fun _ _ _ _ _ => pts_nil) (fun _ _ _ _ _ => pe_op op_add (pv 2) (pv 3))) pa_nil)))), ?_⟩
    refine q_if (et_is (et_not (et_D (ed_call (K := K) (x, m) (ea_cons (ed_var rfl d1) (ea_cons (ed_var rfl d2) ea_nil)) hl1.symm))) (show (!Tm.able x m) = false by rw [hab]; rfl)) (fun z => by cases z) fun _ H1 e1 => ?_
    have hc : (Tm.change m).length = x.length := by
      unfold Tm.change
      rw [Tm.subs_length (by rw [hl1, hl2]), hl1]
    have ea : EAs K (tCons (tVar 0) (tCons (tCall (spChange K) [] E0 (tCons (tVar 1) tNil)) tNil)) (start ["stand", "move", "have", "more"] [v1, v2]) H1 [eS x, eS (Tm.change m)] :=
      ea_cons (ed_var rfl (dp_mono e1 d1)) (ea_cons (ed_call m (ea_cons (ed_var rfl (dp_mono e1 d2)) ea_nil) ⟨by rw [hl1, hl2], by rw [hl1]; exact hz⟩) ea_nil)
    have en := en_lcZ (K := K) (σ := start ["stand", "move", "have", "more"] [v1, v2]) (H := H1) (j := 2) (k := 3) (js := [2, 3]) (tt := tYes) (te := tOp (rI0 fun i j => .int (i + j)) (tVar 2) (tVar 3)) (x.zip (Tm.change m)) (fun p => p.1 + p.2)
      (by rw [zip_fst hc.symm, zip_snd hc.symm]; exact ea) (by rw [len_zip hc.symm]; omega) (fun _ _ => rfl) (fun p _ H1 => ⟨et_yes, ed_I0 (ed_var rfl (.int _)) (ed_var rfl (.int _))⟩)
    refine s_retD (ed_tuple en.ed) fun v H2 e hv => q v H2 (e1.trans e) ?_ (nw_of fun ds z => by cases z)
    show Dp K _ _ (.tuple ((Tm.adds x (Tm.change m)).map PyData.int))
    rw [adds_zip, List.map_map]
    exact hv
end
end TK
namespace TK
open PySem PySem.Spec PyProof.Rows L2 Evl
abbrev sLifted : Stmt := topS 9
abbrev sLeast : Stmt := topS 10
abbrev sSource : Stmt := topS 11
abbrev sSources : Stmt := topS 12
abbrev sStepBack : Stmt := topS 13
theorem scLifted : FnScope ["stand", "basis", "low"] ["stand", "basis"] (defScope sLifted) := ⟨rfl, rfl, rfl, by decide +kernel, rfl, by decide +kernel, by decide +kernel⟩
theorem scLeast : FnScope ["stands", "found", "stand", "other"] ["stands"] (defScope sLeast) := ⟨rfl, rfl, rfl, by decide +kernel, rfl, by decide +kernel, by decide +kernel⟩
theorem scSource : FnScope ["stand", "move", "loss", "gain", "due"] ["stand", "move"] (defScope sSource) := ⟨rfl, rfl, rfl, by decide +kernel, rfl, by decide +kernel, by decide +kernel⟩
theorem scSources : FnScope ["moves", "stands", "found", "stand", "move"] ["moves", "stands"] (defScope sSources) := ⟨rfl, rfl, rfl, by decide +kernel, rfl, by decide +kernel, by decide +kernel⟩
theorem scStepBack : FnScope ["moves", "basis", "own"] ["moves", "basis"] (defScope sStepBack) := ⟨rfl, rfl, rfl, by decide +kernel, rfl, by decide +kernel, by decide +kernel⟩
section
variable {P : Program} {w : World} {K : PySem.W.Frag} {mg : Str → Option Value} {base : Heap}
theorem map_get {α : Type} {f : α → PyData} {H : Hp} {vs : List V} {xs : List α} {i : Nat} {v : V} (h : DpAll K H vs (xs.map f)) (hv : vs[i]? = some v) : ∃ a, xs[i]? = some a ∧ Dp K H v (f a) := by
  have hl := da_length h
  rw [List.length_map] at hl
  have hi : i < xs.length := by
    have := (List.getElem?_eq_some_iff.mp hv).1
    omega
  obtain ⟨v', h1, h2⟩ := da_get (i := i) (d := f xs[i]) h (by rw [List.getElem?_map, List.getElem?_eq_getElem hi]; rfl)
  rw [hv] at h1
  cases h1
  exact ⟨xs[i], List.getElem?_eq_getElem hi, h2⟩
theorem take_snoc {α : Type} {xs : List α} {i : Nat} {a : α} (h : xs[i]? = some a) : xs.take (i + 1) = xs.take i ++ [a] := by rw [List.take_add_one, h]; rfl
theorem nolAll_S (nss : List (List Int)) : nolAll (nss.map eS) = true := nolAll_map nol_S nss
/-! ### lifted -/
def spLifted (K : PySem.W.Frag) : Sp := spD (α := Tm.St × List Tm.St) K (fun a => Tm.Len a.1.length a.2) (fun a => [eS a.1, eB a.2]) (fun a => .bool (Tm.lifted a.1 a.2))
theorem lifted_drop {x : Tm.St} {b : List Tm.St} {i : Nat} {o : Tm.St} (h : b[i]? = some o) : Tm.lifted x (b.drop i) = if Tm.covers x o = true then true else Tm.lifted x (b.drop (i + 1)) := by
  obtain ⟨h1, e1⟩ := List.getElem?_eq_some_iff.mp h
  rw [List.drop_eq_getElem_cons h1, e1]
  unfold Tm.lifted
  rw [List.any_cons]
  cases Tm.covers x o <;> simp
theorem ok_lifted {f fC : Addr} {fd fdC : FuncData} {k : Nat} (F : Fun K "lifted" "lifted" sLifted f fd) (aC : At K mg "covers" sCovers fC fdC ["stand", "other"]) (GC : FnOk P w K mg base CX0 (k + 1) fC fdC ["stand", "other"] (spCovers K)) : FnOk P w K mg base CX0 (k + 1 + 1) f fd ["stand", "basis"] (spLifted K) := by
  refine F.ok scLifted (fun vs H Q E h => ?_) (fun cdv A outer s H vs Q E hr h => ?_)
  · obtain ⟨a, h, _⟩ := h; exact da_length h
  · obtain ⟨⟨x, b⟩, hd, hl, q⟩ := h
    have hl : Tm.Len x.length b := hl
    cases hd with
    | cons d1 hd =>
    cases hd with
    | cons d2 hd =>
    cases hd
    rename_i v1 v2
    obtain ⟨a, vs, rfl, h1, h2⟩ := dp_lst d2
    refine ⟨_, pss_cons (ps_for PassesOwn.never rfl (pi_list (pv 1)) (pg_name (i := 2) scLifted.nd rfl (.inl rfl))
        (pss_one (ps_if (pt_val (pe_call GC hr (by rfl) aC.g aC.F.kp aC.b .nil pass0 (pa_cons (pv 0) (pa_cons (pv 2) pa_nil)))) (pss_one (ps_ret pe_bl)) pss_nil)))
      (pss_one (ps_ret pe_bl)), ?_⟩
    refine q_forLn (K := K) (a := a) (xs := vs) (ev_var rfl) h1 (fun i σ H' => (∃ y, σ = [some v1, some (.ref a), y]) ∧ Ex H H' ∧ Tm.lifted x b = Tm.lifted x (b.drop i))
      (fun H1 e1 => ⟨⟨none, rfl⟩, e1, rfl⟩) (fun i σ' H' _ p => ex_l p.2.1 h1) (fun i v σ' H' hv p => ?_) (fun σ' H' p => ?_)
    · obtain ⟨⟨y, rfl⟩, e, hc⟩ := p
      obtain ⟨o, ho, hd⟩ := map_get h2 hv
      have lo : x.length = o.length := (hl o (List.mem_of_getElem? ho)).symm
      refine s_if (et_D (ed_call (K := K) (x, o) (ea_cons (ed_var rfl (dp_mono e d1)) (ea_cons (ed_var rfl (dp_mono e hd)) ea_nil)) lo)) (fun c H1 e1 => ?_) (fun c H1 e1 => ?_)
      · have c : Tm.covers x o = true := c
        refine q _ _ (e.trans e1) ?_ (nw_of fun ds z => by cases z)
        show Dp K _ _ (.bool (Tm.lifted x b))
        rw [hc, lifted_drop ho, if_pos c]
        exact .bl _
      · have c : Tm.covers x o = false := c
        refine ⟨⟨_, rfl⟩, e.trans e1, ?_⟩
        rw [hc, lifted_drop ho, if_neg (by rw [c]; exact Bool.false_ne_true)]
    · obtain ⟨⟨y, rfl⟩, e, hc⟩ := p
      refine q _ _ e ?_ (nw_of fun ds z => by cases z)
      show Dp K _ _ (.bool (Tm.lifted x b))
      have l2 := da_length h2
      rw [List.length_map] at l2
      rw [hc, l2, List.drop_length]
      exact .bl _
/-! ### least -/
structure PreLeast (a : Nat × List Tm.St) : Prop where
  one : 1 ≤ a.1
  most : a.1 ≤ 1000
  len : Tm.Len a.1 a.2
  pos : Tm.Pos a.2
  few : a.2.length < 64
def spLeast (K : PySem.W.Frag) : Sp := spD (α := Nat × List Tm.St) K PreLeast (fun a => [eB a.2]) (fun a => eB (Tm.least a.2))
theorem foldl_sub {x : Tm.St} : ∀ (rest found : List Tm.St), x ∈ rest.foldl Tm.addLeast found → x ∈ found ∨ x ∈ rest
  | [], found, h => .inl h
  | s :: rest, found, h => by
    rcases foldl_sub rest (Tm.addLeast found s) h with h | h
    · unfold Tm.addLeast at h
      split at h
      · exact .inl h
      · rcases List.mem_append.mp h with h | h
        · exact .inl (List.mem_filter.mp h).1
        · exact .inr (by simp at h; simp [h])
    · exact .inr (List.mem_cons_of_mem _ h)
theorem ok_least {f fC fL : Addr} {fd fdC fdL : FuncData} {k : Nat} (F : Fun K "least" "least" sLeast f fd) (aC : At K mg "covers" sCovers fC fdC ["stand", "other"]) (GC : FnOk P w K mg base CX0 (k + 1) fC fdC ["stand", "other"] (spCovers K))
    (aL : At K mg "lifted" sLifted fL fdL ["stand", "basis"]) (GL : FnOk P w K mg base CX0 (k + 1) fL fdL ["stand", "basis"] (spLifted K)) (ms : mg "sorted" = none) : FnOk P w K mg base CX0 (k + 1 + 1) f fd ["stands"] (spLeast K) := by
  refine F.ok scLeast (fun vs H Q E h => ?_) (fun cdv A outer s H vs Q E hr h => ?_)
  · obtain ⟨a, h, _⟩ := h; exact da_length h
  · obtain ⟨⟨d, ss⟩, hd, hp, q⟩ := h
    have h1d : 1 ≤ d := hp.one
    have hlen : Tm.Len d ss := hp.len
    have hpos : Tm.Pos ss := hp.pos
    have hfew : ss.length < 64 := hp.few
    obtain ⟨B, hB⟩ := bound_of ss
    cases hd with
    | cons d1 hd =>
    cases hd
    obtain ⟨a, vs, rfl, h1, h2⟩ := dp_lst d1
    refine ⟨_, pss_cons (ps_set (i := 1) scLeast.nd rfl (.inl rfl) (pe_lst pa_nil))
      (pss_cons (ps_for PassesOwn.never rfl (pi_list (pv 0)) (pg_name (i := 2) scLeast.nd rfl (.inr rfl))
        (pss_one (ps_if (pt_not (pt_val (pe_call GL hr (by rfl) aL.g aL.F.kp aL.b .nil pass0 (pa_cons (pv 2) (pa_cons (pv 1) pa_nil)))))
          (pss_cons (ps_setLc (i := 1) (own := [("other", 3)]) (g := gName 3) (by rfl) scLeast.nd rfl rfl (sw_true rfl rfl rfl (by decide +kernel)) (pi_list (pv 1))
              (blkOk_by (N := ["stands", "found", "stand", "other"]) (sc := defScope sLeast) (by decide +kernel))
              (fun _ _ _ _ _ => pg_name (i := 3) scLeast.nd rfl (.inl rfl))
              (fun _ _ _ _ _ => pts_one (pt_not (pt_val (pe_call GC hr (by rfl) aC.g aC.F.kp aC.b .nil pass0 (pa_cons (pv 3) (pa_cons (pv 2) pa_nil))))))
              (fun _ _ _ _ _ => pv 3))
            (pss_one (ps_expr (pe_bm PySem.F.plainAttrs_list PySem.F.slot_list_append PySem.F.type_list_append mt_append (pv 1) (pa_cons (pv 2) pa_nil)))))
          pss_nil)))
      (pss_one (ps_ret (pe_callB (cr_sortT (d := d) (B := B) h1d) (by rfl) ms (by decide +kernel) (pa_cons (pv 1) pa_nil))))), ?_⟩
    refine q_asgN (K := K) (ds := []) (en_lst ea_nil (Nat.zero_le _)) fun p0 vs0 H0 hp0 e0 hf0 hd0 => ?_
    cases hd0
    refine q_forLn (K := K) (a := a) (xs := vs) (ev_var rfl) (ex_l e0 h1) (fun i σ H' => ∃ p ws y2 y3, σ = [some (.ref a), some (.ref p), y2, y3] ∧ Ex H H' ∧ H p = none ∧ H' p = some (.lst ws) ∧ DpAll K H' ws (((ss.take i).foldl Tm.addLeast []).map eS))
      (fun H1 e1 => ⟨p0, [], none, none, rfl, e0.trans e1, hp0, e1 _ _ hf0, .nil⟩) (fun i σ' H' _ p => ?_) (fun i v σ' H' hv p => ?_) (fun σ' H' p => ?_)
    · obtain ⟨p, ws, y2, y3, _, e, _⟩ := p
      exact ex_l e h1
    · obtain ⟨p, ws, y2, y3, rfl, e, hp0, hpl, hda⟩ := p
      obtain ⟨o, ho, hdo⟩ := map_get h2 hv
      have hdo' : Dp K H' v (eS o) := dp_mono e hdo
      have lo : o.length = d := hlen o (List.mem_of_getElem? ho)
      have lf : ∀ z ∈ (ss.take i).foldl Tm.addLeast [], z.length = d := fun z hz => by
        rcases foldl_sub _ _ hz with hz | hz
        · simp at hz
        · exact hlen z (List.mem_of_mem_take hz)
      have es : (ss.take (i + 1)).foldl Tm.addLeast [] = Tm.addLeast ((ss.take i).foldl Tm.addLeast []) o := by
        rw [take_snoc ho, List.foldl_append]
        rfl
      rw [es]
      have hsz : ((ss.take i).foldl Tm.addLeast []).length ≤ 64 := by
        have := Tm.leastU_length (ss.take i) []
        rw [List.length_take] at this
        simp only [List.length_nil] at this
        omega
      revert lf hda hsz
      generalize (ss.take i).foldl Tm.addLeast [] = fnd
      intro hda lf hsz
      have hdl : Dp K H' (.ref p) (eB fnd) := .lst (.inl (.inl hpl)) hda
      refine s_if (et_not (et_D (ed_call (K := K) (o, fnd) (ea_cons (ed_var rfl hdo') (ea_cons (ed_var rfl hdl) ea_nil)) (fun z hz => by rw [lf z hz, lo])))) (fun c H1 e1 => ?_) (fun c H1 e1 => ?_)
      · have c : Tm.lifted o fnd = false := by
          have c : (!Tm.lifted o fnd) = true := c
          simpa using c
        refine q_asgN (en_lcL (K := K) fnd eS (fun z => !Tm.covers z o) eS (ed_var rfl (dp_mono e1 hdl)) (by omega) nol_S (fun _ => rfl) (fun z hz x H2 e2 hx => ⟨et_not (et_D (ed_call (K := K) (z, o) (ea_cons (ed_var rfl hx) (ea_cons (ed_var rfl (dp_mono (e1.trans e2) hdo')) ea_nil)) (by show z.length = o.length; rw [lf z hz, lo]))), fun _ => ed_var rfl hx⟩)) fun p2 ws2 H2 hp2 e2 hpl2 hda2 => ?_
        have hws2 : ws2.length < 100000 := by
          rw [da_length hda2, List.length_map]
          exact Nat.lt_of_le_of_lt (List.length_filter_le _ _) (by omega)
        refine s_appD (K := K) (d := eS o) hpl2 rfl (ed_var rfl (dp_mono (e1.trans e2) hdo')) hws2 fun v3 H3 e3 hv3 => ?_
        have hb : H p2 = none := fresh_back e (fresh_back e1 hp2)
        refine ⟨p2, ws2 ++ [v3], _, _, rfl, Ex.mut (((e.trans e1).trans e2).trans e3) hb, hb, upd_same, ?_⟩
        unfold Tm.addLeast
        rw [if_neg (by rw [c]; exact Bool.false_ne_true), List.map_append]
        exact da_upd (e3 _ _ hpl2) (nolAll_append (nolAll_S _) (nolAll_S [o])) (da_snoc (da_mono e3 hda2) hv3)
      · have c : Tm.lifted o fnd = true := by
          have c : (!Tm.lifted o fnd) = false := c
          simpa using c
        refine ⟨p, ws, _, _, rfl, e.trans e1, hp0, e1 _ _ hpl, ?_⟩
        unfold Tm.addLeast
        rw [if_pos c]
        exact da_mono e1 hda
    · obtain ⟨p, ws, y2, y3, rfl, e, hp0, hpl, hda⟩ := p
      have l2 := da_length h2
      rw [List.length_map] at l2
      rw [l2, List.take_length] at hda
      have hsub : ∀ z ∈ Tm.leastU ss, z ∈ ss := fun z hz => by
        rcases foldl_sub _ _ hz with hz | hz
        · simp at hz
        · exact hz
      have hdl : Dp K H' (.ref p) (eB (Tm.leastU ss)) := .lst (.inl (.inl hpl)) hda
      refine s_retN (en_sorted (K := K) h1d (ed_var rfl hdl) ?_ (fun z hz => hlen z (hsub z hz)) (fun z hz => hpos z (hsub z hz)) fun z hz => hB z (hsub z hz)) fun p4 ws4 H4 hp4 e4 hl4 hd4 => ?_
      · have := Tm.leastU_length ss []
        show (ss.foldl Tm.addLeast []).length < 64
        simp only [List.length_nil] at this
        omega
      · exact q _ _ (e.trans e4) (.lst (.inl (.inl hl4)) hd4) (nw_list (fresh_back e hp4) hl4 hd4)
end
end TK
namespace TK
open PySem PySem.Spec PyProof.Rows L2 Evl
section
variable {P : Program} {w : World} {K : PySem.W.Frag} {mg : Str → Option Value} {base : Heap}
/-! ### source -/
structure PreSource (a : Tm.St × Tm.Mv) : Prop where
  l1 : a.2.1.length = a.1.length
  l2 : a.2.2.length = a.1.length
  most : a.1.length ≤ 1000
def spSource (K : PySem.W.Frag) : Sp := spD (α := Tm.St × Tm.Mv) K PreSource (fun a => [eS a.1, eM a.2]) (fun a => eS (Tm.sourceM a.1 a.2))
def src1 (p : Int × Int × Int) : Int := p.1 + (if p.2.2 - p.2.1 > 0 then p.2.2 - p.2.1 else 0)
theorem source_zip : ∀ l g d : List Int, Tm.source l g d = (l.zip (g.zip d)).map src1
  | [], _, _ => by simp [Tm.source]
  | _ :: _, [], _ => by simp [Tm.source]
  | _ :: _, _ :: _, [] => by simp [Tm.source]
  | x :: l, y :: g, z :: d => by simp [Tm.source, source_zip l g d, src1]
theorem ok_source {f : Addr} {fd : FuncData} {k : Nat} (F : Fun K "source" "source" sSource f fd) (mz : mg "zip" = none) (mt : mg "tuple" = none) (mm : mg "max" = none) : FnOk P w K mg base CX0 (k + 1) f fd ["stand", "move"] (spSource K) := by
  refine F.ok scSource (fun vs H Q E h => ?_) (fun cdv A outer s H vs Q E hr h => ?_)
  · obtain ⟨a, h, _⟩ := h; exact da_length h
  · obtain ⟨⟨x, m⟩, hd, hp, q⟩ := h
    have hl1 : m.1.length = x.length := hp.l1
    have hl2 : m.2.length = x.length := hp.l2
    have hz : x.length ≤ 1000 := hp.most
    cases hd with
    | cons d1 hd =>
    cases hd with
    | cons d2 hd =>
    cases hd
    rename_i v1 v2
    refine ⟨_, pss_one (ps_ret (pe_callTy call_tuple_of (by rfl) mt (by decide +kernel) (pa_cons (pe_lc (own := [("loss", 2), ("gain", 3), ("due", 4)]) (g := gTup K 3 (gCons (gName 2) (gCons (gName 3) (gCons (gName 4) gNil)))) rfl scSource.nd
      (Z3.pi_zip3 (by rfl) mz (pa_cons (pe_ix ix_tup (pv 1) pe_int (fun _ _ => rfl)) (pa_cons (pe_ix ix_tup (pv 1) pe_int (fun _ _ => rfl)) (pa_cons (pv 0) pa_nil))))
      (blkOk_by (N := ["stand", "move", "loss", "gain", "due"]) (sc := defScope sSource) (by decide +kernel))
      (fun _ _ _ _ _ => pg_tup rfl (pgs_cons (pg_name (i := 2) scSource.nd rfl (.inl rfl)) (pgs_cons (pg_name (i := 3) scSource.nd rfl (.inl rfl)) (pgs_cons (pg_name (i := 4) scSource.nd rfl (.inl rfl)) pgs_nil))))
      (fun _ _ _ _ _ => pts_nil) (fun _ _ _ _ _ => pe_op op_add (pv 2) (pe_callB (call_max2 rfl) (by rfl) mm (by decide +kernel) (pa_cons pe_int (pa_cons (pe_op op_sub (pv 4) (pv 3)) pa_nil))))) pa_nil))), ?_⟩
    have ea : EAs K (tCons (tOp (rIxT K) (tVar 1) (tC (.int 0))) (tCons (tOp (rIxT K) (tVar 1) (tC (.int 1))) (tCons (tVar 0) tNil))) (start ["stand", "move", "loss", "gain", "due"] [v1, v2]) H [eS m.1, eS m.2, eS x] :=
      ea_cons (ed_ixT (ed_var rfl d2) ed_int (atI_nat (j := 0) rfl)) (ea_cons (ed_ixT (ed_var rfl d2) ed_int (atI_nat (j := 1) rfl)) (ea_cons (ed_var rfl d1) ea_nil))
    have lz : (m.2.zip x).length = m.1.length := by rw [List.length_zip]; omega
    have e1 : (m.1.zip (m.2.zip x)).map (·.1) = m.1 := List.map_fst_zip (by omega)
    have e0 : (m.1.zip (m.2.zip x)).map (·.2) = m.2.zip x := List.map_snd_zip (by omega)
    have e2 : (m.1.zip (m.2.zip x)).map (·.2.1) = m.2 := by
      rw [show (m.1.zip (m.2.zip x)).map (·.2.1) = ((m.1.zip (m.2.zip x)).map (·.2)).map (·.1) by rw [List.map_map]; rfl, e0]
      exact zip_fst hl2
    have e3 : (m.1.zip (m.2.zip x)).map (·.2.2) = x := by
      rw [show (m.1.zip (m.2.zip x)).map (·.2.2) = ((m.1.zip (m.2.zip x)).map (·.2)).map (·.2) by rw [List.map_map]; rfl, e0]
      exact zip_snd hl2
    have en := en_lcZ3 (K := K) (σ := start ["stand", "move", "loss", "gain", "due"] [v1, v2]) (H := H) (j := 2) (k := 3) (l := 4) (js := [2, 3, 4]) (tt := tYes) (te := tOp (rI0 fun i j => .int (i + j)) (tVar 2) (tCB rMax2 (tCons (tC (.int 0)) (tCons (tOp (rI0 fun i j => .int (i - j)) (tVar 4) (tVar 3)) tNil)))) (m.1.zip (m.2.zip x)) src1
      (by rw [e1, e2, e3]; exact ea) (by rw [List.length_zip, lz]; omega) (fun _ _ _ => rfl) (fun p _ H1 => ⟨et_yes, ed_I0 (ed_var rfl (.int _)) (ed_max ed_int (ed_I0 (ed_var rfl (.int _)) (ed_var rfl (.int _))))⟩)
    refine s_retD (ed_tuple en.ed) fun v H1 e hv => q v H1 e ?_ (nw_of fun ds z => by cases z)
    show Dp K _ _ (.tuple ((Tm.source m.1 m.2 x).map PyData.int))
    rw [source_zip, List.map_map]
    exact hv
/-! ### sources -/
structure PreSources (a : Nat × List Tm.Mv × List Tm.St) : Prop where
  most : a.1 ≤ 1000
  lm : Tm.LenM a.1 a.2.1
  ls : Tm.Len a.1 a.2.2
  fm : a.2.1.length ≤ 100
  fs : a.2.2.length ≤ 100
def spSources (K : PySem.W.Frag) : Sp := spD (α := Nat × List Tm.Mv × List Tm.St) K PreSources (fun a => [eMs a.2.1, eB a.2.2]) (fun a => eB (Tm.sources a.2.1 a.2.2))
theorem sources_snoc (ms : List Tm.Mv) (ss : List Tm.St) (s : Tm.St) : Tm.sources ms (ss ++ [s]) = Tm.sources ms ss ++ ms.map (Tm.sourceM s) := by
  unfold Tm.sources
  rw [List.flatMap_append, List.flatMap_singleton]
theorem ok_sources {f fS : Addr} {fd fdS : FuncData} {k : Nat} (F : Fun K "sources" "sources" sSources f fd) (aS : At K mg "source" sSource fS fdS ["stand", "move"]) (GS : FnOk P w K mg base CX0 (k + 1) fS fdS ["stand", "move"] (spSource K)) : FnOk P w K mg base CX0 (k + 1 + 1) f fd ["moves", "stands"] (spSources K) := by
  refine F.ok scSources (fun vs H Q E h => ?_) (fun cdv A outer s H vs Q E hr h => ?_)
  · obtain ⟨a, h, _⟩ := h; exact da_length h
  · obtain ⟨⟨d, ms, ss⟩, hd, hp, q⟩ := h
    have hmost : d ≤ 1000 := hp.most
    have lm : Tm.LenM d ms := hp.lm
    have ls : Tm.Len d ss := hp.ls
    have fms : ms.length ≤ 100 := hp.fm
    have fss : ss.length ≤ 100 := hp.fs
    cases hd with
    | cons d1 hd =>
    cases hd with
    | cons d2 hd =>
    cases hd
    obtain ⟨a, us, rfl, g1, g2⟩ := dp_tup d1
    obtain ⟨b, vs, rfl, h1, h2⟩ := dp_lst d2
    have g2 : DpAll K H us (ms.map eM) := g2
    have h2 : DpAll K H vs (ss.map eS) := h2
    refine ⟨_, pss_cons (ps_set (i := 2) scSources.nd rfl (.inl rfl) (pe_lst pa_nil))
      (pss_cons (ps_for PassesOwn.never rfl (pi_list (pv 1)) (pg_name (i := 3) scSources.nd rfl (.inl rfl))
        (pss_one (ps_for PassesOwn.never rfl (pi_tup (pv 0)) (pg_name (i := 4) scSources.nd rfl (.inl rfl))
          (pss_one (ps_expr (pe_bm PySem.F.plainAttrs_list PySem.F.slot_list_append PySem.F.type_list_append mt_append (pv 2) (pa_cons (pe_call GS hr (by rfl) aS.g aS.F.kp aS.b .nil pass0 (pa_cons (pv 3) (pa_cons (pv 4) pa_nil))) pa_nil)))))))
      (pss_one (ps_ret (pv 2)))), ?_⟩
    refine q_asgN (K := K) (ds := []) (en_lst ea_nil (Nat.zero_le _)) fun p H0vs H0 hp0 e0 hf0 hd0 => ?_
    cases hd0
    refine q_forLn (K := K) (a := b) (xs := vs) (ev_var rfl) (ex_l e0 h1) (fun i σ H' => ∃ ws y3 y4, σ = [some (.ref a), some (.ref b), some (.ref p), y3, y4] ∧ Ex H H' ∧ H' p = some (.lst ws) ∧ DpAll K H' ws ((Tm.sources ms (ss.take i)).map eS))
      (fun H1 e1 => ⟨[], none, none, rfl, e0.trans e1, e1 _ _ hf0, .nil⟩) (fun i σ' H' _ p => ?_) (fun i v σ' H' hv pp => ?_) (fun σ' H' pp => ?_)
    · obtain ⟨ws, y2, y3, _, e, _⟩ := p
      exact ex_l e h1
    · obtain ⟨ws, y3, y4, rfl, e, hpl, hda⟩ := pp
      obtain ⟨o, ho, hdo⟩ := map_get h2 hv
      have lo : o.length = d := ls o (List.mem_of_getElem? ho)
      have ilt : i < ss.length := (List.getElem?_eq_some_iff.mp ho).1
      refine s_forT (K := K) (a := a) (xs := us) (ev_var rfl) (ex_t e g1) (fun j σ H'' => ∃ ws y4, σ = [some (.ref a), some (.ref b), some (.ref p), some v, y4] ∧ Ex H H'' ∧ H'' p = some (.lst ws) ∧ DpAll K H'' ws ((Tm.sources ms (ss.take i) ++ (ms.take j).map (Tm.sourceM o)).map eS))
        (fun H1 e1 => ⟨ws, y4, rfl, e.trans e1, e1 _ _ hpl, by simpa using da_mono e1 hda⟩) (fun j σ' H' _ p => ?_) (fun j u σ' H'' hu pp => ?_) (fun σ' H'' pp => ?_)
      · obtain ⟨ws, y4, _, e, _⟩ := p
        exact ex_t e g1
      · obtain ⟨ws, y4, rfl, e2, hpl, hda⟩ := pp
        obtain ⟨m, hm, hdm⟩ := map_get g2 hu
        have lmm := lm m (List.mem_of_getElem? hm)
        have jlt : j < ms.length := (List.getElem?_eq_some_iff.mp hm).1
        have hz : ws.length < 100000 := by
          rw [da_length hda, List.length_map, List.length_append, Tm.sources_length, List.length_map, List.length_take, List.length_take]
          have : min i ss.length * ms.length ≤ 100 * 100 := Nat.mul_le_mul (by omega) fms
          omega
        refine s_appD (K := K) (d := eS (Tm.sourceM o m)) hpl rfl (ed_call (K := K) (o, m) (ea_cons (ed_var rfl (dp_mono e2 hdo)) (ea_cons (ed_var rfl (dp_mono e2 hdm)) ea_nil)) ⟨by show m.1.length = o.length; rw [lmm.1, lo], by show m.2.length = o.length; rw [lmm.2, lo], by show o.length ≤ 1000; rw [lo]; exact hmost⟩) hz fun v3 H3 e3 hv3 => ?_
        refine ⟨ws ++ [v3], _, rfl, Ex.mut (e2.trans e3) hp0, upd_same, ?_⟩
        have ee : Tm.sources ms (ss.take i) ++ (ms.take (j + 1)).map (Tm.sourceM o) = (Tm.sources ms (ss.take i) ++ (ms.take j).map (Tm.sourceM o)) ++ [Tm.sourceM o m] := by
          rw [take_snoc hm, List.map_append, List.append_assoc]
          rfl
        rw [ee, List.map_append]
        exact da_upd (e3 _ _ hpl) (nolAll_append (nolAll_S _) (nolAll_S [Tm.sourceM o m])) (da_snoc (da_mono e3 hda) hv3)
      · obtain ⟨ws, y4, rfl, e2, hpl, hda⟩ := pp
        have l2 := da_length g2
        rw [List.length_map] at l2
        rw [l2, List.take_length] at hda
        refine ⟨ws, _, _, rfl, e2, hpl, ?_⟩
        rw [take_snoc ho, sources_snoc]
        exact hda
    · obtain ⟨ws, y3, y4, rfl, e, hpl, hda⟩ := pp
      have l2 := da_length h2
      rw [List.length_map] at l2
      rw [l2, List.take_length] at hda
      refine s_ret (ev_var rfl) fun H1 e1 => ?_
      have hda1 := da_mono e1 hda
      exact q _ _ (e.trans e1) (.lst (.inl (.inl (e1 _ _ hpl))) hda1) (nw_list hp0 (e1 _ _ hpl) hda1)
/-! ### step_back -/
structure PreStep (a : Nat × List Tm.Mv × List Tm.St) : Prop where
  one : 1 ≤ a.1
  most : a.1 ≤ 1000
  lm : Tm.LenM a.1 a.2.1
  pm : Tm.PosM a.2.1
  lb : Tm.Len a.1 a.2.2
  pb : Tm.Pos a.2.2
  fm : a.2.1.length ≤ 8
  fb : a.2.2.length ≤ 6
def spStep (K : PySem.W.Frag) : Sp := spD (α := Nat × List Tm.Mv × List Tm.St) K PreStep (fun a => [eMs a.2.1, eB a.2.2]) (fun a => eB (Tm.stepBack a.2.1 a.2.2))
/-- xs + ys, two tracked lists, the second new -/
theorem en_cat {σ : L2.St} {H : Hp} {tb : TE} {i : Nat} {l : Addr} {xs : List V} {ds es : List PyData} (hi : σ[i]? = some (some (.ref l))) (hl : H l = some (.lst xs)) (hd : DpAll K H xs ds) (hb : EN K tb σ H es) (hz : ds.length + es.length ≤ 100000) : EN K (tOp rCat (tVar i) tb) σ H (ds ++ es) := fun H1 x Q q =>
  ⟨.ref l, hi, hb H1 x _ fun p vs H2 hp e2 hp2 hv => ⟨l, p, xs, vs, rfl, rfl, e2 _ _ (x _ _ hl), hp2, sz_of (by rw [da_length hd, da_length hv]; exact hz), fun r hr => q r _ _ (fresh_back e2 hr) (e2.trans (Ex.new hr)) upd_same (da_app (da_mono ((x.trans e2).trans (Ex.new hr)) hd) (da_mono (Ex.new hr) hv))⟩⟩
theorem ok_step {f fL fS : Addr} {fd fdL fdS : FuncData} {k : Nat} (F : Fun K "step_back" "step_back" sStepBack f fd) (aL : At K mg "least" sLeast fL fdL ["stands"]) (GL : FnOk P w K mg base CX0 (k + 1) fL fdL ["stands"] (spLeast K))
    (aS : At K mg "sources" sSources fS fdS ["moves", "stands"]) (GS : FnOk P w K mg base CX0 (k + 1) fS fdS ["moves", "stands"] (spSources K)) : FnOk P w K mg base CX0 (k + 1 + 1) f fd ["moves", "basis"] (spStep K) := by
  refine F.ok scStepBack (fun vs H Q E h => ?_) (fun cdv A outer s H vs Q E hr h => ?_)
  · obtain ⟨a, h, _⟩ := h; exact da_length h
  · obtain ⟨⟨d, ms, b⟩, hd, hp, q⟩ := h
    have h1d : 1 ≤ d := hp.one
    have hmost : d ≤ 1000 := hp.most
    have lm : Tm.LenM d ms := hp.lm
    have pm : Tm.PosM ms := hp.pm
    have lb : Tm.Len d b := hp.lb
    have pb : Tm.Pos b := hp.pb
    have fms : ms.length ≤ 8 := hp.fm
    have fb : b.length ≤ 6 := hp.fb
    cases hd with
    | cons d1 hd =>
    cases hd with
    | cons d2 hd =>
    cases hd
    rename_i v1 v2
    refine ⟨_, pss_cons (ps_set (i := 2) scStepBack.nd rfl (.inl rfl) (pe_call GL hr (by rfl) aL.g aL.F.kp aL.b .nil pass0 (pa_cons (pv 1) pa_nil)))
      (pss_one (ps_ret (pe_call GL hr (by rfl) aL.g aL.F.kp aL.b .nil pass0 (pa_cons (pe_op op_cat (pv 2) (pe_call GS hr (by rfl) aS.g aS.F.kp aS.b .nil pass0 (pa_cons (pv 0) (pa_cons (pv 2) pa_nil)))) pa_nil)))), ?_⟩
    have lo : (Tm.least b).length ≤ 6 := Nat.le_trans (Tm.least_length b) fb
    have lown := Tm.len_least lb
    have lsz : (Tm.sources ms (Tm.least b)).length ≤ 48 := by
      rw [Tm.sources_length]
      exact Nat.mul_le_mul lo fms
    refine q_asgN (en_call (K := K) (d, b) (ea_cons (ed_var rfl d2) ea_nil) ⟨h1d, hmost, lb, pb, by show b.length < 64; omega⟩ rfl) fun p vs H1 hp e1 hpl hda => ?_
    have hda : DpAll K H1 vs ((Tm.least b).map eS) := hda
    have hdl : Dp K H1 (.ref p) (eB (Tm.least b)) := .lst (.inl (.inl hpl)) hda
    have en2 : EN K (tCall (spSources K) [] E0 (tCons (tVar 0) (tCons (tVar 2) tNil))) ((start ["moves", "basis", "own"] [v1, v2]).set 2 (some (.ref p))) H1 ((Tm.sources ms (Tm.least b)).map eS) := en_call (K := K) (d, ms, Tm.least b) (ea_cons (ed_var rfl (dp_mono e1 d1)) (ea_cons (ed_var rfl hdl) ea_nil)) ⟨hmost, lm, lown, by show ms.length ≤ 100; omega, by show (Tm.least b).length ≤ 100; omega⟩ rfl
    have en3 := (en_cat (K := K) (i := 2) rfl hpl hda en2 (by rw [List.length_map, List.length_map]; omega)).ed
    rw [← List.map_append] at en3
    refine s_retN (en_call (K := K) (d, Tm.least b ++ Tm.sources ms (Tm.least b)) (ea_cons en3 ea_nil) ⟨h1d, hmost, Tm.len_both lm lown, Tm.pos_both pm (Tm.pos_least lb pb), by show (Tm.least b ++ _).length < 64; rw [List.length_append]; omega⟩ rfl) fun p4 ws4 H4 hp4 e4 hl4 hd4 => ?_
    exact q _ _ (e1.trans e4) (.lst (.inl (.inl hl4)) hd4) (nw_list (fresh_back e1 hp4) hl4 hd4)
end
end TK
namespace TK
open PySem PySem.Spec PyProof.Rows L2 Evl
abbrev sRings : Stmt := topS 15
abbrev sEnough : Stmt := topS 16
theorem scRings : FnScope ["moves", "target", "most", "begin", "rings", "ring", "wider"] ["moves", "target", "most", "begin"] (defScope sRings) := ⟨rfl, rfl, rfl, by decide +kernel, rfl, by decide +kernel, by decide +kernel⟩
theorem scEnough : FnScope ["moves", "target", "most", "word", "rings"] ["moves", "target", "most"] (defScope sEnough) := ⟨rfl, rfl, rfl, by decide +kernel, rfl, by decide +kernel, by decide +kernel⟩
def eO : Option Tm.St → PyData
  | none => .none
  | some s => eS s
def wd : Tm.Wd → Str
  | .row => "row"
  | .opn => "open"
  | .bas => "basis"
def eR (r : Tm.Wd × List (List Tm.St)) : PyData := .tuple [.str (wd r.1), .list (r.2.map eB)]
structure RArg where
  d : Nat
  ms : List Tm.Mv
  t : Tm.St
  most : Nat
  bg : Option Tm.St
structure PreR (a : RArg) : Prop where
  one : 1 ≤ a.d
  many : a.d ≤ 1000
  lm : Tm.LenM a.d a.ms
  pm : Tm.PosM a.ms
  lt : a.t.length = a.d
  pt : ∀ i ∈ a.t, 0 ≤ i
  lb : ∀ b, a.bg = some b → b.length = a.d
  fm : a.ms.length ≤ 8
  most : a.most ≤ 6
/-- the rings' list at p, each ring a list of its own -/
def RL (K : PySem.W.Frag) (H : Hp) (p : Addr) : List V → List (List Tm.St) → Prop := Paired fun v r => ∃ a ws, v = .ref a ∧ a ≠ p ∧ H a = some (.lst ws) ∧ DpAll K H ws (r.map eS)
section
variable {K : PySem.W.Frag} {H H' : Hp} {p : Addr}
theorem RL.mono (e : Ex H H') {vs : List V} {rs : List (List Tm.St)} (h : RL K H p vs rs) : RL K H' p vs rs :=
  Paired.mapP h fun v r ⟨a, ws, e1, e2, e3, e4⟩ => ⟨a, ws, e1, e2, e _ _ e3, da_mono e e4⟩
theorem RL.upd {xs : List V} {o : HO} (hp : H p = some (.lst xs)) {vs : List V} {rs : List (List Tm.St)} (h : RL K H p vs rs) : RL K (upd H p o) p vs rs :=
  Paired.mapP h fun v r ⟨a, ws, e1, e2, e3, e4⟩ => ⟨a, ws, e1, e2, by rw [upd_ne e2]; exact e3, da_upd hp (nolAll_S r) e4⟩
theorem paired_snoc {α β : Type} {F : α → β → Prop} : ∀ {l : List α} {m : List β} {a : α} {b : β}, Paired F l m → F a b → Paired F (l ++ [a]) (m ++ [b])
  | _, _, _, _, .nil, h => .cons h .nil
  | _, _, _, _, .cons r t, h => .cons r (paired_snoc t h)
theorem RL.da : ∀ {vs : List V} {rs : List (List Tm.St)}, RL K H p vs rs → DpAll K H vs (rs.map eB)
  | _, _, .nil => .nil
  | _, _, .cons ⟨a, ws, e1, _, e3, e4⟩ t => by
    subst e1
    exact .cons (.lst (.inl (.inl e3)) e4) (RL.da t)
theorem paired_length {α β : Type} {F : α → β → Prop} : ∀ {l : List α} {m : List β}, Paired F l m → l.length = m.length
  | _, _, .nil => rfl
  | _, _, .cons _ t => by rw [List.length_cons, List.length_cons, paired_length t]
end
section
variable {K : PySem.W.Frag} {σ : L2.St} {H H' : Hp} {ta tb te : TE} {tr : TA} {d e : PyData} {ds : List PyData} {v : V} {D : Ends} {tz : TS}
/-- [a new list] -/
theorem l_lst1 (h : EN K te σ H ds) : ∀ H1, Ex H H1 → ∀ Q : VK, (∀ p a vs H2, H1 p = none → Ex H1 H2 → H2 p = some (.lst [.ref a]) → a ≠ p → H2 a = some (.lst vs) → DpAll K H2 vs ds → Q (.ref p) H2) → tLst (tCons te tNil) σ H1 Q := fun H1 x Q q =>
  h H1 x _ fun a vs H2 ha e2 hl hd => ⟨by show 1 ≤ sizeLine; decide, fun p hp => q p a vs _ (fresh_back e2 hp) (e2.trans (Ex.new hp)) upd_same (ne_of_none hl hp) (by rw [upd_ne (ne_of_none hl hp)]; exact hl) (da_mono (Ex.new hp) hd)⟩
theorem q_asgL1 {i : Nat} (h : EN K te σ H ds) (k : ∀ p a vs H2, H p = none → Ex H H2 → H2 p = some (.lst [.ref a]) → a ≠ p → H2 a = some (.lst vs) → DpAll K H2 vs ds → tz D (σ.set i (some (.ref p))) H2) : tSeq (tAsg (tLst (tCons te tNil)) (gName i)) tz D σ H := l_lst1 h H (Ex.refl H) (fun x H1 => tz D (σ.set i (some x)) H1) k
theorem q_asgPair {i j : Nat} {d1 d2 : PyData} (h : ED K te σ H (.tuple [d1, d2])) (k : ∀ v1 v2 H1, Ex H H1 → Dp K H1 v1 d1 → Dp K H1 v2 d2 → tz D ((σ.set i (some v1)).set j (some v2)) H1) : tSeq (tAsg te (gTup K 2 (gCons (gName i) (gCons (gName j) gNil)))) tz D σ H :=
  h H (Ex.refl H) _ fun v H1 e1 hv => by
    obtain ⟨a, xs, rfl, h1, h2⟩ := dp_tup hv
    cases h2 with
    | cons q1 h2 =>
    cases h2 with
    | cons q2 h2 =>
    cases h2
    exact ⟨a, _, rfl, h1, rfl, _, _, rfl, _, _, rfl, rfl, k _ _ H1 e1 q1 q2⟩
theorem ed_neg1 : ED K (tUn (rU fun i => .int (-i)) (tC (.int 1))) σ H (.int (-1)) := di (ev_un ev_c ru_neg)
theorem at_last {ds : List PyData} {d : PyData} : atI (ds ++ [d]) (-1) = some d := atI_last ds d
theorem ed_last {pre : List (List Tm.St)} {top : List Tm.St} (h : ED K te σ H (.list ((pre ++ [top]).map eB))) : ED K (tOp (rIxL K) te (tUn (rU fun i => .int (-i)) (tC (.int 1)))) σ H (eB top) :=
  ed_ixL h ed_neg1 (by rw [List.map_append]; exact at_last)
theorem ed_gt {i j : Int} (ha : ED K ta σ H (.int i)) (hb : ED K tb σ H (.int j)) : ED K (tOp (rI0 fun i j => .bl (decide (j < i))) ta tb) σ H (.bool (decide (j < i))) := ed_B0 ha hb
end
section
open Tm
variable {ms : List Mv} {bg : Option Tm.St} {most : Nat} {pre : List (List Tm.St)} {ring : List Tm.St}
theorem rF_row {n : Nat} (h : lift? bg ring = true) : ringsF ms bg most n pre ring = (.row, pre ++ [ring]) := by
  cases n <;> (unfold ringsF; rw [if_pos h])
theorem rF_opn {n : Nat} (h : lift? bg ring = false) (h2 : ring.length > most) : ringsF ms bg most n pre ring = (.opn, pre ++ [ring]) := by
  cases n <;> (unfold ringsF; rw [if_neg (by rw [h]; exact Bool.false_ne_true), if_pos h2])
theorem rF_bas {n : Nat} (h : lift? bg ring = false) (h2 : ¬ ring.length > most) (h3 : stepBack ms ring = ring) : ringsF ms bg most n pre ring = (.bas, pre ++ [ring]) := by
  cases n <;> (unfold ringsF; rw [if_neg (by rw [h]; exact Bool.false_ne_true), if_neg h2, if_pos h3])
theorem rF_zero (h : lift? bg ring = false) (h2 : ¬ ring.length > most) (h3 : ¬ stepBack ms ring = ring) : ringsF ms bg most 0 pre ring = (.opn, pre ++ [ring]) := by
  unfold ringsF; rw [if_neg (by rw [h]; exact Bool.false_ne_true), if_neg h2, if_neg h3]
theorem rF_succ {n : Nat} (h : lift? bg ring = false) (h2 : ¬ ring.length > most) (h3 : ¬ stepBack ms ring = ring) : ringsF ms bg most (n + 1) pre ring = ringsF ms bg most n (pre ++ [ring]) (stepBack ms ring) := by
  conv => lhs; unfold ringsF
  rw [if_neg (by rw [h]; exact Bool.false_ne_true), if_neg h2, if_neg h3]
end
section
variable {P : Program} {w : World} {K : PySem.W.Frag} {mg : Str → Option Value} {base : Heap}
def argR (a : RArg) : List PyData := [eMs a.ms, eS a.t, .int a.most, eO a.bg]
def spRings (K : PySem.W.Frag) : Sp := spD (α := RArg) K PreR argR (fun a => eR (Tm.rings a.ms a.bg a.t a.most))
theorem ok_rings {f fL fE fS : Addr} {fd fdL fdE fdS : FuncData} {k : Nat} (F : Fun K "rings_of" "rings_of" sRings f fd) (aL : At K mg "lifted" sLifted fL fdL ["stand", "basis"]) (GL : FnOk P w K mg base CX0 (k + 1) fL fdL ["stand", "basis"] (spLifted K))
    (aE : At K mg "least" sLeast fE fdE ["stands"]) (GE : FnOk P w K mg base CX0 (k + 1) fE fdE ["stands"] (spLeast K))
    (aS : At K mg "step_back" sStepBack fS fdS ["moves", "basis"]) (GS : FnOk P w K mg base CX0 (k + 1) fS fdS ["moves", "basis"] (spStep K)) (ml : mg "len" = none) : FnOk P w K mg base CX0 (k + 1 + 1) f fd ["moves", "target", "most", "begin"] (spRings K) := by
  refine F.ok scRings (fun vs H Q E h => ?_) (fun cdv A outer s H vs Q E hr h => ?_)
  · obtain ⟨a, h, _⟩ := h; exact da_length h
  · obtain ⟨⟨d, ms, t, most, bg⟩, hd, hp, q⟩ := h
    have h1d : 1 ≤ d := hp.one
    have hmany : d ≤ 1000 := hp.many
    have lm : Tm.LenM d ms := hp.lm
    have pm : Tm.PosM ms := hp.pm
    have lt : t.length = d := hp.lt
    have pt : ∀ i ∈ t, 0 ≤ i := hp.pt
    have lb : ∀ b, bg = some b → b.length = d := hp.lb
    have fms : ms.length ≤ 8 := hp.fm
    have hmost : most ≤ 6 := hp.most
    cases hd with
    | cons d1 hd =>
    cases hd with
    | cons d2 hd =>
    cases hd with
    | cons d3 hd =>
    cases hd with
    | cons d4 hd =>
    cases hd
    rename_i v1 v2 v3 v4
    have d1 : Dp K H v1 (eMs ms) := d1
    have d2 : Dp K H v2 (eS t) := d2
    have d3 : Dp K H v3 (.int (most : Int)) := d3
    have d4 : Dp K H v4 (eO bg) := d4
    refine ⟨_, pss_cons (ps_set (i := 4) scRings.nd rfl (.inl rfl) (pe_lst (pa_cons (pe_call GE hr (by rfl) aE.g aE.F.kp aE.b .nil pass0 (pa_cons (pe_lst (pa_cons (pv 1) pa_nil)) pa_nil)) pa_nil)))
      (pss_one (ps_while PassesOwn.never (pt_val pe_bl)
        (pss_cons (ps_set (i := 5) scRings.nd rfl (.inl rfl) (pe_ix ix_list (pv 4) (pe_un un_neg pe_int) (fun _ _ => rfl)))
        (pss_cons (ps_if (PW.pt (pw_and (pt_cmp (pc_notN (pv 3))) (pw_and1 (pt_val (pe_call GL hr (by rfl) aL.g aL.F.kp aL.b .nil pass0 (pa_cons (pv 3) (pa_cons (pv 5) pa_nil))))))) (pss_one (ps_ret (pe_tup (pa_cons pe_str (pa_cons (pv 4) pa_nil))))) pss_nil)
        (pss_cons (ps_if (pt_cmpR op_gt (pe_callB call_len_seq (by rfl) ml PySem.boot_len (pa_cons (pv 5) pa_nil)) (pv 2) (nomark _)) (pss_one (ps_ret (pe_tup (pa_cons pe_str (pa_cons (pv 4) pa_nil))))) pss_nil)
        (pss_cons (ps_set (i := 6) scRings.nd rfl (.inl rfl) (pe_call GS hr (by rfl) aS.g aS.F.kp aS.b .nil pass0 (pa_cons (pv 0) (pa_cons (pv 5) pa_nil))))
        (pss_cons (ps_if (pt_cmpR (op_eqD hr.units) (pv 6) (pv 5) (nomark _)) (pss_one (ps_ret (pe_tup (pa_cons pe_str (pa_cons (pv 4) pa_nil))))) pss_nil)
        (pss_cons (ps_if (pt_cmpR op_gt (pe_callB call_len_seq (by rfl) ml PySem.boot_len (pa_cons (pv 4) pa_nil)) (pv 2) (nomark _)) (pss_one (ps_ret (pe_tup (pa_cons pe_str (pa_cons (pv 4) pa_nil))))) pss_nil)
        (pss_one (ps_expr (pe_bm PySem.F.plainAttrs_list PySem.F.slot_list_append PySem.F.type_list_append mt_append (pv 4) (pa_cons (pv 6) pa_nil)))))))))))), ?_⟩
    have lone : Tm.Len d [t] := fun x hx => by
      have e : x = t := by simpa using hx
      rw [e, lt]
    have pone : Tm.Pos [t] := fun x hx => by
      have e : x = t := by simpa using hx
      rw [e]; exact pt
    have en0 : EN K (tCall (spLeast K) [] E0 (tCons (tLst (tCons (tVar 1) tNil)) tNil)) (start ["moves", "target", "most", "begin", "rings", "ring", "wider"] [v1, v2, v3, v4]) H ([t].map eS) :=
      en_call (K := K) (d, [t]) (ea_cons (en_lst (ea_cons (ed_var rfl d2) ea_nil) (by show 1 ≤ 100000; omega)).ed ea_nil) ⟨h1d, hmany, lone, pone, by show 1 < 64; omega⟩ rfl
    refine q_asgL1 en0 fun p a0 ws0 H0 hp0 e0 hpl0 ne0 ha0 hda0 => ?_
    refine s_while (fun m σ H' => ∃ pre ring vs y5 y6, σ = [some v1, some v2, some v3, some v4, some (.ref p), y5, y6] ∧ Ex H H' ∧ H' p = some (.lst vs) ∧ RL K H' p vs (pre ++ [ring]) ∧ Tm.Len d ring ∧ Tm.Pos ring ∧ m + pre.length = most ∧ Tm.ringsF ms bg most m pre ring = Tm.rings ms bg t most) most
      ⟨[], [t], [.ref a0], none, none, rfl, e0, hpl0, .cons ⟨a0, ws0, rfl, ne0, ha0, hda0⟩ .nil, lone, pone, by simp, rfl⟩ fun m σ' H' hw => ?_
    obtain ⟨pre, ring, vs, y5, y6, rfl, e, hpl, hrl, lr, pr, hm, hF⟩ := hw
    refine ⟨true, et_D (K := K) ed_bl, fun _ H1 e1 => ⟨fun σ2 H2 => ∃ m', m' < m ∧ ∃ pre ring vs y5 y6, σ2 = [some v1, some v2, some v3, some v4, some (.ref p), y5, y6] ∧ Ex H H2 ∧ H2 p = some (.lst vs) ∧ RL K H2 p vs (pre ++ [ring]) ∧ Tm.Len d ring ∧ Tm.Pos ring ∧ m' + pre.length = most ∧ Tm.ringsF ms bg most m' pre ring = Tm.rings ms bg t most, fun σ2 H2 hN => hN, ?_⟩, fun z => by cases z⟩
    have ed4 : ∀ H2, Ex H1 H2 → Dp K H2 (.ref p) (.list ((pre ++ [ring]).map eB)) := fun H2 x => .lst (.inl (.inl (x _ _ (e1 _ _ hpl)))) (RL.da ((hrl.mono e1).mono x))
    refine q_asgD (ed_last (K := K) (ed_var rfl (ed4 H1 (Ex.refl H1)))) fun v5 H2 e2 hv5 => ?_
    -- if begin is not None and lifted(begin, ring)
    have t1 : EvT (tAnd (tB (tNotN (tVar 3))) (tB (tCall (spLifted K) [] E0 (tCons (tVar 3) (tCons (tVar 5) tNil))))) [some v1, some v2, some v3, some v4, some (.ref p), some v5, y6] H2 (Tm.lift? bg ring) := by
      cases bg with
      | none =>
        have hv4 := dp_non d4
        subst hv4
        refine et_is (et_and (a := false) (b := true) (et_B fun H3 _ Q q => ⟨_, rfl, q H3 (Ex.refl H3)⟩) (fun z => by cases z)) rfl
      | some b =>
        have d4 : Dp K H v4 (eS b) := d4
        obtain ⟨ab, rfl, _⟩ := dp_S d4
        refine et_is (et_and (a := true) (b := Tm.lifted b ring) (et_B fun H3 _ Q q => ⟨_, rfl, q H3 (Ex.refl H3)⟩) (fun _ => et_D (ed_call (K := K) (b, ring) (ea_cons (ed_var rfl (dp_mono ((e.trans e1).trans e2) d4)) (ea_cons (ed_var rfl hv5) ea_nil)) (fun z hz => by rw [lr z hz]; exact (lb b rfl).symm)))) rfl
    have e02 := (e.trans e1).trans e2
    have ret : ∀ (wd' : Tm.Wd) (H3 : Hp), Ex H2 H3 → Tm.ringsF ms bg most m pre ring = (wd', pre ++ [ring]) → ∀ v H4, Ex H3 H4 → Dp K H4 v (.tuple [.str (wd wd'), .list ((pre ++ [ring]).map eB)]) → Q v H4 := fun wd' H3 e3 hw v H4 e4 hv => by
      refine q v H4 ((e02.trans e3).trans e4) ?_ (nw_of fun ds z => by cases z)
      show Dp K H4 v (eR (Tm.rings ms bg t most))
      rw [← hF, hw]
      exact hv
    refine q_if t1 (fun c H3 e3 => ?_) (fun c H3 e3 => ?_)
    · exact s_retD (ed_tup (ea_cons ed_str (ea_cons (ed_var rfl (ed4 H3 (e2.trans e3))) ea_nil)) (by show 2 ≤ 100000; omega)) (ret .row H3 e3 (rF_row c))
    -- if len(ring) > most
    have hlen : ED K (tCB (rLenS K) (tCons (tVar 5) tNil)) [some v1, some v2, some v3, some v4, some (.ref p), some v5, y6] H3 (.int (ring.length : Int)) := by
      have := ed_lenL (K := K) (σ := [some v1, some v2, some v3, some v4, some (.ref p), some v5, y6]) (H := H3) (te := tVar 5) (ds := ring.map eS) (ed_var rfl (dp_mono e3 hv5))
      rwa [List.length_map] at this
    refine q_if (et_T (ed_gt hlen (ed_var rfl (dp_mono (e02.trans e3) d3)))) (fun c2 H4 e4 => ?_) (fun c2 H4 e4 => ?_)
    · have c2 := of_decide_eq_true c2
      exact s_retD (ed_tup (ea_cons ed_str (ea_cons (ed_var rfl (ed4 H4 ((e2.trans e3).trans e4))) ea_nil)) (by show 2 ≤ 100000; omega)) (ret .opn H4 (e3.trans e4) (rF_opn c (by omega)))
    have c2 : ¬ ring.length > most := fun z => of_decide_eq_false c2 (by omega)
    have e04 := (e02.trans e3).trans e4
    -- wider = step_back(moves, ring)
    have en6 : EN K (tCall (spStep K) [] E0 (tCons (tVar 0) (tCons (tVar 5) tNil))) [some v1, some v2, some v3, some v4, some (.ref p), some v5, y6] H4 ((Tm.stepBack ms ring).map eS) :=
      en_call (K := K) (d, ms, ring) (ea_cons (ed_var rfl (dp_mono e04 d1)) (ea_cons (ed_var rfl (dp_mono (e3.trans e4) hv5)) ea_nil)) ⟨h1d, hmany, lm, pm, lr, pr, fms, by show ring.length ≤ 6; omega⟩ rfl
    refine q_asgN en6 fun p6 ws6 H5 hp6 e5 hl6 hd6 => ?_
    have hd6 : DpAll K H5 ws6 ((Tm.stepBack ms ring).map eS) := hd6
    have hdl6 : Dp K H5 (.ref p6) (eB (Tm.stepBack ms ring)) := .lst (.inl (.inl hl6)) hd6
    have e25 := (e3.trans e4).trans e5
    -- if wider == ring
    refine q_if (et_T (ed_eqD (ed_var rfl hdl6) (ed_var rfl (dp_mono e25 hv5)) ((fl_B _).shaped (by decide)) ((fl_B _).shaped (by decide)))) (fun c3 H6 e6 => ?_) (fun c3 H6 e6 => ?_)
    · rw [eqv_B] at c3
      exact s_retD (ed_tup (ea_cons ed_str (ea_cons (ed_var rfl (ed4 H6 ((e2.trans e25).trans e6))) ea_nil)) (by show 2 ≤ 100000; omega)) (ret .bas H6 (e25.trans e6) (rF_bas c c2 (of_decide_eq_true c3)))
    rw [eqv_B] at c3
    have c3 := of_decide_eq_false c3
    -- if len(rings) > most
    have hlen2 : ED K (tCB (rLenS K) (tCons (tVar 4) tNil)) [some v1, some v2, some v3, some v4, some (.ref p), some v5, some (.ref p6)] H6 (.int ((pre.length + 1 : Nat) : Int)) := by
      have := ed_lenL (K := K) (σ := [some v1, some v2, some v3, some v4, some (.ref p), some v5, some (.ref p6)]) (H := H6) (te := tVar 4) (ds := (pre ++ [ring]).map eB) (ed_var rfl (ed4 H6 ((e2.trans e25).trans e6)))
      rwa [List.length_map, List.length_append] at this
    refine q_if (et_T (ed_gt hlen2 (ed_var rfl (dp_mono ((e02.trans e25).trans e6) d3)))) (fun c4 H7 e7 => ?_) (fun c4 H7 e7 => ?_)
    · have c4 := of_decide_eq_true c4
      have hm0 : m = 0 := by omega
      refine s_retD (ed_tup (ea_cons ed_str (ea_cons (ed_var rfl (ed4 H7 (((e2.trans e25).trans e6).trans e7))) ea_nil)) (by show 2 ≤ 100000; omega)) (ret .opn H7 ((e25.trans e6).trans e7) ?_)
      rw [hm0]
      exact rF_zero c c2 c3
    have c4 := of_decide_eq_false c4
    obtain ⟨m', rfl⟩ : ∃ m', m = m' + 1 := ⟨m - 1, by omega⟩
    -- rings.append(wider)
    have e17 := (((e2.trans e25).trans e6).trans e7)
    have hpl7 : H7 p = some (.lst vs) := e17 _ _ (e1 _ _ hpl)
    have hvl : vs.length = pre.length + 1 := by
      have := paired_length hrl
      rw [List.length_append] at this
      exact this
    refine s_app (K := K) (v := .ref p6) hpl7 (ev_var rfl) (ev_var rfl) (by omega) fun H8 e8 => ?_
    have hpl8 : H8 p = some (.lst vs) := e8 _ _ hpl7
    have e08 : Ex H H8 := ((((e.trans e1).trans e17)).trans e8)
    have nep : p6 ≠ p := by
      have : H4 p = some (.lst vs) := e4 _ _ (e3 _ _ (e2 _ _ (e1 _ _ hpl)))
      exact fun z => by rw [z, this] at hp6; cases hp6
    refine ⟨m', Nat.lt_succ_self m', pre ++ [ring], Tm.stepBack ms ring, vs ++ [.ref p6], _, _, rfl, Ex.mut e08 hp0, upd_same, ?_, Tm.len_stepBack lm lr, Tm.pos_stepBack lm lr pm pr, by rw [List.length_append]; simp only [List.length_cons, List.length_nil]; omega, ?_⟩
    · refine paired_snoc (RL.upd hpl8 ((((hrl.mono e1).mono e17)).mono e8)) ⟨p6, ws6, rfl, nep, ?_, ?_⟩
      · rw [upd_ne nep]
        exact e8 _ _ (e7 _ _ (e6 _ _ hl6))
      · exact da_upd hpl8 (nolAll_S _) (da_mono ((e6.trans e7).trans e8) hd6)
    · rw [← hF, rF_succ c c2 c3]
end
end TK
namespace TK
open PySem PySem.Spec PyProof.Rows L2 Evl
abbrev sFirst : Stmt := topS 17
abbrev sCover : Stmt := topS 18
abbrev sNever : Stmt := topS 19
theorem scFirst : FnScope ["moves", "stand", "rings", "row", "ring", "number"] ["moves", "stand", "rings"] (defScope sFirst) := ⟨rfl, rfl, rfl, by decide +kernel, rfl, by decide +kernel, by decide +kernel⟩
theorem scCover : FnScope ["moor", "target", "most", "word", "rings"] ["moor", "target", "most"] (defScope sCover) := ⟨rfl, rfl, rfl, by decide +kernel, rfl, by decide +kernel, by decide +kernel⟩
theorem scNever : FnScope ["moor", "most", "found", "take", "put", "word"] ["moor", "most"] (defScope sNever) := ⟨rfl, rfl, rfl, by decide +kernel, rfl, by decide +kernel, by decide +kernel⟩
/-- an answer: w is the word of a basis -/
def eA (w : Str) : Tm.Ans → PyData
  | .row r => .tuple [.str "row", .list (r.map fun n : Nat => PyData.int (n : Int))]
  | .opn k => .tuple [.str "open", .int (k : Int)]
  | .wall b => .tuple [.str w, eB b]
def eN : Option Bool → PyData
  | none => .none
  | some b => .bool b
theorem nol_N (o : Option Bool) : nol (eN o) = true := by cases o <;> simp [eN, nol]
theorem wd_open (x : Tm.Wd) : decide (wd x = "open") = decide (x = .opn) := by cases x <;> decide +kernel
theorem wd_row (x : Tm.Wd) : decide (wd x = "row") = decide (x = .row) := by cases x <;> decide +kernel
section
variable {P : Program} {w : World} {K : PySem.W.Frag} {mg : Str → Option Value} {base : Heap}
/-! ### enough -/
structure EArg where
  d : Nat
  ms : List Tm.Mv
  t : Tm.St
  most : Nat
def EArg.r (a : EArg) : RArg := ⟨a.d, a.ms, a.t, a.most, none⟩
def spEnough (K : PySem.W.Frag) : Sp := spD (α := EArg) K (fun a => PreR a.r) (fun a => [eMs a.ms, eS a.t, .int a.most]) (fun a => eA "basis" (Tm.enough a.ms a.t a.most))
theorem ok_enough {f fR : Addr} {fd fdR : FuncData} {k : Nat} (F : Fun K "enough" "enough" sEnough f fd) (aR : At K mg "rings_of" sRings fR fdR ["moves", "target", "most", "begin"]) (GR : FnOk P w K mg base CX0 (k + 1) fR fdR ["moves", "target", "most", "begin"] (spRings K)) (ml : mg "len" = none) : FnOk P w K mg base CX0 (k + 1 + 1) f fd ["moves", "target", "most"] (spEnough K) := by
  refine F.ok scEnough (fun vs H Q E h => ?_) (fun cdv A outer s H vs Q E hr h => ?_)
  · obtain ⟨a, h, _⟩ := h; exact da_length h
  · obtain ⟨⟨d, ms, t, most⟩, hd, hp, q⟩ := h
    have hp : PreR ⟨d, ms, t, most, none⟩ := hp
    obtain ⟨pre, top, er, T⟩ := Tm.rings_told (bg := none) (most := most) hp.lm hp.pm hp.lt hp.pt
    have hrow : (Tm.rings ms none t most).1 ≠ .row := fun z => by
      have := T.row z
      cases this
    cases hd with
    | cons d1 hd =>
    cases hd with
    | cons d2 hd =>
    cases hd with
    | cons d3 hd =>
    cases hd
    rename_i v1 v2 v3
    have d1 : Dp K H v1 (eMs ms) := d1
    have d2 : Dp K H v2 (eS t) := d2
    have d3 : Dp K H v3 (.int (most : Int)) := d3
    have q : ∀ v H', Ex H H' → Dp K H' v (eA "basis" (Tm.enough ms t most)) → Q v H' := fun v H' e hv => q v H' e hv (nw_of fun ds z => by
      have z : eA "basis" (Tm.enough ms t most) = .list ds := z
      revert z
      cases Tm.enough ms t most <;> (intro z; cases z))
    refine ⟨_, pss_cons (ps_asg (pe_call GR hr (by rfl) aR.g aR.F.kp aR.b .nil pass0 (pa_cons (pv 0) (pa_cons (pv 1) (pa_cons (pv 2) (pa_cons pe_non pa_nil))))) (pg_tup rfl (pgs_cons (pg_name (i := 3) scEnough.nd rfl (.inl rfl)) (pgs_cons (pg_name (i := 4) scEnough.nd rfl (.inl rfl)) pgs_nil))))
      (pss_cons (ps_if (pt_cmpR op_eq (pv 3) pe_str (nomark _)) (pss_one (ps_ret (pe_tup (pa_cons pe_str (pa_cons (pe_op op_sub (pe_callB call_len_seq (by rfl) ml PySem.boot_len (pa_cons (pv 4) pa_nil)) pe_int) pa_nil))))) pss_nil)
      (pss_one (ps_ret (pe_tup (pa_cons pe_str (pa_cons (pe_ix ix_list (pv 4) (pe_un un_neg pe_int) (fun _ _ => rfl)) pa_nil)))))), ?_⟩
    have er0 : ED K (tCall (spRings K) [] E0 (tCons (tVar 0) (tCons (tVar 1) (tCons (tVar 2) (tCons (tC .non) tNil))))) (start ["moves", "target", "most", "word", "rings"] [v1, v2, v3]) H (.tuple [.str (wd (Tm.rings ms none t most).1), .list ((Tm.rings ms none t most).2.map eB)]) :=
      ed_call (K := K) (⟨d, ms, t, most, none⟩ : RArg) (ea_cons (ed_var rfl d1) (ea_cons (ed_var rfl d2) (ea_cons (ed_var rfl d3) (ea_cons ed_non ea_nil)))) hp
    rw [er] at er0
    refine q_asgPair er0 fun x y H1 e1 hx hy => ?_
    have hen : Tm.enough ms t most = Tm.answer ms [] ((Tm.rings ms none t most).1, pre ++ [top]) := by
      unfold Tm.enough
      rw [← er]
    revert hen hrow hx
    generalize (Tm.rings ms none t most).1 = ww
    intro hrow hx hen
    have t1 := ed_eqS (K := K) (σ := [some v1, some v2, some v3, some x, some y]) (H := H1) (ed_var (i := 3) rfl hx) (ed_str (x := "open"))
    rw [wd_open] at t1
    refine q_if (et_T t1) (fun c H2 e2 => ?_) (fun c H2 e2 => ?_)
    · have c : ww = .opn := of_decide_eq_true c
      subst c
      have hl := ed_lenL (K := K) (σ := [some v1, some v2, some v3, some x, some y]) (H := H2) (te := tVar 4) (ed_var rfl (dp_mono e2 hy))
      rw [List.length_map, List.length_append] at hl
      refine s_retD (ed_tup (ea_cons ed_str (ea_cons (ed_I0 hl ed_int) ea_nil)) (by show 2 ≤ 100000; omega)) fun v H3 e3 hv => q v H3 ((e1.trans e2).trans e3) ?_
      rw [hen]
      show Dp K H3 v (.tuple [.str "open", .int (((pre ++ [top]).length - 1 : Nat) : Int)])
      rw [List.length_append, List.length_singleton, Nat.add_sub_cancel]
      rw [List.length_singleton] at hv
      rw [show (((pre.length + 1 : Nat) : Int) - 1) = (pre.length : Int) by omega] at hv
      exact hv
    · have c : ww ≠ .opn := of_decide_eq_false c
      refine s_retD (ed_tup (ea_cons ed_str (ea_cons (ed_last (ed_var rfl (dp_mono e2 hy))) ea_nil)) (by show 2 ≤ 100000; omega)) fun v H3 e3 hv => q v H3 ((e1.trans e2).trans e3) ?_
      rw [hen]
      cases ww with
      | row => exact absurd rfl hrow
      | opn => exact absurd rfl c
      | bas =>
        show Dp K H3 v (.tuple [.str "basis", eB ((pre ++ [top]).getLastD [])])
        rw [List.getLastD_concat]
        exact hv
/-! ### first_row -/
structure FArg where
  d : Nat
  ms : List Tm.Mv
  s : Tm.St
  rs : List (List Tm.St)
structure PreF (a : FArg) : Prop where
  many : a.d ≤ 1000
  lm : Tm.LenM a.d a.ms
  ls : a.s.length = a.d
  lr : Tm.Lens a.d a.rs
  ok : Tm.RowOk a.ms a.s a.rs.dropLast.reverse
  few : a.rs.length ≤ 1000
def eI (r : List Nat) : List PyData := r.map fun n : Nat => PyData.int (n : Int)
theorem cutV_last (us : List V) : cutV us none (some (-1)) = us.dropLast := by
  unfold cutV
  rw [HT.sIx_none, List.drop_zero, Nat.sub_zero, List.dropLast_eq_take]
  have : HT.sIx us.length us.length (some (-1)) = us.length - 1 := by
    unfold HT.sIx
    simp only []
    split <;> omega
  rw [this]
theorem da_dropLast {H : Hp} {K : PySem.W.Frag} {vs : List V} {ds : List PyData} (h : DpAll K H vs ds) : DpAll K H vs.dropLast ds.dropLast := by
  rw [List.dropLast_eq_take, List.dropLast_eq_take, da_length h]
  exact da_take _ h
def spFirst (K : PySem.W.Frag) : Sp := spD (α := FArg) K PreF (fun a => [eMs a.ms, eS a.s, .list (a.rs.map eB)]) (fun a => .list (eI (Tm.firstRow a.ms a.s a.rs.dropLast.reverse)))
theorem ok_first {f fA fL fT : Addr} {fd fdA fdL fdT : FuncData} {k : Nat} (F : Fun K "first_row" "first_row" sFirst f fd) (aA : At K mg "able" sAble fA fdA ["stand", "move"]) (GA : FnOk P w K mg base CX0 (k + 1) fA fdA ["stand", "move"] (spAble K))
    (aL : At K mg "lifted" sLifted fL fdL ["stand", "basis"]) (GL : FnOk P w K mg base CX0 (k + 1) fL fdL ["stand", "basis"] (spLifted K))
    (aT : At K mg "after" sAfter fT fdT ["stand", "move"]) (GT : FnOk P w K mg base CX0 (k + 1) fT fdT ["stand", "move"] (spAfter K)) (mr : mg "reversed" = none) : FnOk P w K mg base CX0 (k + 1 + 1) f fd ["moves", "stand", "rings"] (spFirst K) := by
  refine F.ok scFirst (fun vs H Q E h => ?_) (fun cdv A outer s H vs Q E hr h => ?_)
  · obtain ⟨a, h, _⟩ := h; exact da_length h
  · obtain ⟨⟨d, ms, s0, rs⟩, hd, hp, q⟩ := h
    have hmany : d ≤ 1000 := hp.many
    have lm : Tm.LenM d ms := hp.lm
    have ls : s0.length = d := hp.ls
    have lr : Tm.Lens d rs := hp.lr
    have hok : Tm.RowOk ms s0 rs.dropLast.reverse := hp.ok
    have few : rs.length ≤ 1000 := hp.few
    cases hd with
    | cons d1 hd =>
    cases hd with
    | cons d2 hd =>
    cases hd with
    | cons d3 hd =>
    cases hd
    rename_i v1 v2 v3
    have d1 : Dp K H v1 (eMs ms) := d1
    have d2 : Dp K H v2 (eS s0) := d2
    have d3 : Dp K H v3 (.list (rs.map eB)) := d3
    refine ⟨_, pss_cons (ps_set (i := 3) scFirst.nd rfl (.inl rfl) (pe_lst pa_nil))
      (pss_cons (ps_for PassesOwn.never rfl (pi_reversed (by rfl) mr (pa_cons (pe_slice sl_list (pv 2) po_none (po_some (pe_un un_neg pe_int))) pa_nil)) (pg_name (i := 4) scFirst.nd rfl (.inl rfl))
        (pss_cons (ps_set (i := 5) scFirst.nd rfl (.inl rfl) pe_int)
        (pss_cons (ps_while PassesOwn.never (pt_not (PW.pt (pw_and (pt_val (pe_call GA hr (by rfl) aA.g aA.F.kp aA.b .nil pass0 (pa_cons (pv 1) (pa_cons (pe_ix ix_tup (pv 0) (pv 5) (fun _ _ => rfl)) pa_nil))))
            (pw_and1 (pt_val (pe_call GL hr (by rfl) aL.g aL.F.kp aL.b .nil pass0 (pa_cons (pe_call GT hr (by rfl) aT.g aT.F.kp aT.b .nil pass0 (pa_cons (pv 1) (pa_cons (pe_ix ix_tup (pv 0) (pv 5) (fun _ _ => rfl)) pa_nil))) (pa_cons (pv 4) pa_nil))))))))
          (pss_one (ps_set (i := 5) scFirst.nd rfl (.inl rfl) (pe_op op_add (pv 5) pe_int))))
        (pss_cons (ps_expr (pe_bm PySem.F.plainAttrs_list PySem.F.slot_list_append PySem.F.type_list_append mt_append (pv 3) (pa_cons (pv 5) pa_nil)))
        (pss_one (ps_set (i := 1) scFirst.nd rfl (.inl rfl) (pe_call GT hr (by rfl) aT.g aT.F.kp aT.b .nil pass0 (pa_cons (pv 1) (pa_cons (pe_ix ix_tup (pv 0) (pv 5) (fun _ _ => rfl)) pa_nil)))))))))
      (pss_one (ps_ret (pv 3)))), ?_⟩
    refine q_asgN (K := K) (ds := []) (en_lst ea_nil (Nat.zero_le _)) fun p vs0 H0 hp0 e0 hf0 hd0 => ?_
    cases hd0
    obtain ⟨a3, us3, rfl, g1, g2⟩ := dp_lst d3
    have g2' : DpAll K H us3.dropLast (rs.dropLast.map eB) := by
      rw [List.map_dropLast]
      exact da_dropLast g2
    refine ⟨.ref a3, rfl, 1, rfl, -1, rfl, a3, us3, rfl, ex_l e0 g1, fun L hL => ?_⟩
    rw [cutV_last]
    revert g2'
    generalize us3.dropLast = us
    intro g2'
    have hlen := da_length g2'
    rw [List.length_map] at hlen
    have neL : L ≠ p := (ne_of_none hf0 hL).symm
    have e1 : Ex H0 (upd H0 L (.lst us)) := Ex.new hL
    refine ⟨L, us, rfl, .inl (.inl upd_same), for_it (walk_rev (K := K) (a := L) (xs := us)) (fun i σ H' => ∃ si vi dn ws y4 y5, σ = [some v1, some vi, some (.ref a3), some (.ref p), y4, y5] ∧ Ex H H' ∧ H' L = some (.lst us) ∧ H' p = some (.lst ws) ∧ DpAll K H' ws (eI dn) ∧ Dp K H' vi (eS si) ∧ si.length = d ∧ dn.length = i ∧ Tm.RowOk ms si (rs.dropLast.reverse.drop i) ∧ Tm.firstRow ms s0 rs.dropLast.reverse = dn ++ Tm.firstRow ms si (rs.dropLast.reverse.drop i))
      ⟨s0, v2, [], [], none, none, rfl, e0.trans e1, upd_same, e1 _ _ hf0, .nil, dp_mono (e0.trans e1) d2, ls, rfl, by simpa using hok, by simp⟩
      (fun i σ H' hi pp => ?_) (fun i x σ H' H'' hi pp hy => ?_) (fun σ H' pp => ?_)⟩
    · obtain ⟨si, vi, dn, ws, y4, y5, _, _, hLl, _⟩ := pp
      exact .inl (.inl hLl)
    · obtain ⟨rfl, hx⟩ := hy
      obtain ⟨si, vi, dn, ws, y4, y5, rfl, e, hLl, hpl, hda, hvi, lsi, ldn, hrok, hfr⟩ := pp
      -- the ring
      have hi' : i < rs.dropLast.length := by omega
      have hxr : rs.dropLast.reverse[i]? = rs.dropLast[us.length - 1 - i]? := by
        rw [List.getElem?_reverse hi', hlen]
      obtain ⟨r, hr1, hr2⟩ := map_get g2' hx
      rw [← hxr] at hr1
      have hdrop : rs.dropLast.reverse.drop i = r :: rs.dropLast.reverse.drop (i + 1) := by
        obtain ⟨a1, a2⟩ := List.getElem?_eq_some_iff.mp hr1
        rw [List.drop_eq_getElem_cons a1, a2]
      rw [hdrop] at hrok hfr
      have lrr : Tm.Len d r := lr r (List.dropLast_subset _ (List.mem_reverse.mp (List.mem_of_getElem? hr1)))
      obtain ⟨pk1, pk2, pk3⟩ := Tm.pick_spec hrok.1
      have hrok2 := hrok.2
      have hfr2 : Tm.firstRow ms si (r :: rs.dropLast.reverse.drop (i + 1)) = Tm.pick ms si r :: Tm.firstRow ms (Tm.after si (ms.getD (Tm.pick ms si r) ([], []))) (rs.dropLast.reverse.drop (i + 1)) := rfl
      rw [hfr2] at hfr
      clear hfr2
      have hget : ∀ {j : Nat}, j < ms.length → ms[j]? = some (ms.getD j ([], [])) := fun {j} hj => by
        rw [List.getD_eq_getElem?_getD, List.getElem?_eq_getElem hj]
        rfl
      have hmem : ∀ {j : Nat}, j < ms.length → ms.getD j ([], []) ∈ ms := fun {j} hj => List.mem_of_getElem? (hget hj)
      have hat : ∀ {j : Nat}, j < ms.length → atI (ms.map eM) (j : Int) = some (eM (ms.getD j ([], []))) := fun {j} hj => atI_nat (by rw [List.getElem?_map, hget hj]; rfl)
      refine q_asgD (K := K) ed_int fun v5 H2 e2 hv5 => ?_
      cases dp_int hv5
      refine q_while (fun m σ H3 => ∃ j : Nat, σ = [some v1, some vi, some (.ref a3), some (.ref p), some x, some (.int (j : Int))] ∧ Ex H2 H3 ∧ j + m = Tm.pick ms si r) (Tm.pick ms si r) ⟨0, rfl, Ex.refl H2, by omega⟩ fun m σ' H3 hw => ?_
      obtain ⟨j, rfl, e3, hjm⟩ := hw
      have hj : j < ms.length := by omega
      have lmj := lm _ (hmem hj)
      have e03 := (e.trans e2).trans e3
      have em : ED K (tOp (rIxT K) (tVar 0) (tVar 5)) [some v1, some vi, some (.ref a3), some (.ref p), some x, some (.int (j : Int))] H3 (eM (ms.getD j ([], []))) := ed_ixT (ed_var rfl (dp_mono e03 d1)) (ed_var rfl (.int _)) (hat hj)
      have es : ED K (tVar 1) [some v1, some vi, some (.ref a3), some (.ref p), some x, some (.int (j : Int))] H3 (eS si) := ed_var rfl (dp_mono (e2.trans e3) hvi)
      have tst : EvT (tNot (tAnd (tB (tCall (spAble K) [] E0 (tCons (tVar 1) (tCons (tOp (rIxT K) (tVar 0) (tVar 5)) tNil)))) (tB (tCall (spLifted K) [] E0 (tCons (tCall (spAfter K) [] E0 (tCons (tVar 1) (tCons (tOp (rIxT K) (tVar 0) (tVar 5)) tNil))) (tCons (tVar 4) tNil)))))) [some v1, some vi, some (.ref a3), some (.ref p), some x, some (.int (j : Int))] H3 (!Tm.hits si r (ms.getD j ([], []))) := by
        refine et_not (et_and (et_D (ed_call (K := K) (si, ms.getD j ([], [])) (ea_cons es (ea_cons em ea_nil)) (by show si.length = (ms.getD j ([], [])).1.length; rw [lmj.1, lsi]))) fun hab => et_D (ed_call (K := K) (Tm.after si (ms.getD j ([], [])), r) (ea_cons (ed_call (K := K) (si, ms.getD j ([], [])) (ea_cons es (ea_cons em ea_nil)) ⟨?_, ?_, ?_, hab⟩) (ea_cons (ed_var rfl (dp_mono e03 hr2)) ea_nil)) ?_))
        · show (ms.getD j ([], [])).1.length = si.length
          rw [lmj.1, lsi]
        · show (ms.getD j ([], [])).2.length = si.length
          rw [lmj.2, lsi]
        · show si.length ≤ 1000
          omega
        · intro z hz
          rw [lrr z hz]
          exact (Tm.after_length lsi lmj).symm
      refine ⟨_, tst, fun c H4 e4 => ⟨fun σ2 H5 => ∃ m', m' < m ∧ ∃ j : Nat, σ2 = [some v1, some vi, some (.ref a3), some (.ref p), some x, some (.int (j : Int))] ∧ Ex H2 H5 ∧ j + m' = Tm.pick ms si r, fun σ2 H5 hN => hN, ?_⟩, fun c H4 e4 => ?_⟩
      · have c : Tm.hits si r (ms.getD j ([], [])) = false := by simpa using c
        have hm0 : m ≠ 0 := fun z => by
          have : j = Tm.pick ms si r := by omega
          rw [← this, c] at pk3
          cases pk3
        refine s_asgD (K := K) (ed_I0 (ed_var rfl (.int _)) ed_int) fun v6 H5 e5 hv6 => ?_
        cases dp_int hv6
        exact ⟨m - 1, by omega, j + 1, rfl, (e3.trans e4).trans e5, by omega⟩
      · have c : Tm.hits si r (ms.getD j ([], [])) = true := by simpa using c
        have hjp : j = Tm.pick ms si r := by
          by_cases z : j < Tm.pick ms si r
          · have := List.not_of_lt_findIdx z
            have e2 : ms.getD j ([], []) = ms[j] := by rw [List.getD_eq_getElem?_getD, List.getElem?_eq_getElem hj]; rfl
            rw [e2] at c
            exact absurd c (by simpa using this)
          · omega
        have e24 := e3.trans e4
        have hz : ws.length < 100000 := by
          have := da_length hda
          unfold eI at this
          rw [List.length_map] at this
          have l3 : rs.dropLast.length ≤ rs.length := by rw [List.length_dropLast]; omega
          omega
        refine q_appD (K := K) (d := .int (j : Int)) (e24 _ _ (e2 _ _ hpl)) rfl (ed_var rfl (.int _)) hz fun v6 H5 e5 hv6 => ?_
        cases dp_int hv6
        have hpl5 : H5 p = some (.lst ws) := e5 _ _ (e24 _ _ (e2 _ _ hpl))
        have eU : Ex H (upd H5 p (.lst (ws ++ [.int (j : Int)]))) := Ex.mut (((e.trans e2).trans e24).trans e5) hp0
        have hvi5 : Dp K (upd H5 p (.lst (ws ++ [.int (j : Int)]))) vi (eS si) := dp_upd hpl5 (nol_S si) (dp_mono ((e2.trans e24).trans e5) hvi)
        have hab : Tm.able si (ms.getD j ([], [])) = true := by
          unfold Tm.hits at c
          rw [Bool.and_eq_true] at c
          exact c.1
        refine s_asgD (ed_call (K := K) (si, ms.getD j ([], [])) (ea_cons (ed_var rfl hvi5) (ea_cons (ed_ixT (ed_var rfl (dp_mono eU d1)) (ed_var rfl (.int _)) (hat hj)) ea_nil)) ⟨by show (ms.getD j ([], [])).1.length = si.length; rw [lmj.1, lsi], by show (ms.getD j ([], [])).2.length = si.length; rw [lmj.2, lsi], by show si.length ≤ 1000; omega, hab⟩) fun v7 H7 e7 hv7 => ?_
        refine ⟨Tm.after si (ms.getD j ([], [])), v7, dn ++ [j], ws ++ [.int (j : Int)], _, _, rfl, eU.trans e7, e7 _ _ ?_, e7 _ _ upd_same, ?_, hv7, Tm.after_length lsi lmj, by rw [List.length_append, ldn]; rfl, ?_, ?_⟩
        · rw [upd_ne neL]
          exact e5 _ _ (e24 _ _ (e2 _ _ hLl))
        · unfold eI
          rw [List.map_append]
          have hni : nolAll (dn.map fun n : Nat => PyData.int (n : Int)) = true := nolAll_map (fun n => nol_int _) dn
          exact da_mono e7 (da_snoc (da_upd hpl5 hni (da_mono ((e2.trans e24).trans e5) hda)) (.int _))
        · rw [hjp]; exact hrok2
        · rw [hfr, hjp, List.append_assoc]; rfl
    · obtain ⟨si, vi, dn, ws, y4, y5, rfl, e, hLl, hpl, hda, hvi, lsi, ldn, hrok, hfr⟩ := pp
      rw [show rs.dropLast.reverse.drop us.length = [] from List.drop_eq_nil_of_le (by rw [List.length_reverse, hlen]; exact Nat.le_refl _)] at hfr
      have hfr : Tm.firstRow ms s0 rs.dropLast.reverse = dn := by rw [hfr]; simp [Tm.firstRow]
      refine s_ret (ev_var rfl) fun H2 e2 => ?_
      refine q _ _ (e.trans e2) ?_ ?_
      · show Dp K H2 (.ref p) (.list (eI (Tm.firstRow ms s0 rs.dropLast.reverse)))
        rw [hfr]
        exact .lst (.inl (.inl (e2 _ _ hpl))) (da_mono e2 hda)
      · show Nw K H H2 (.ref p) (.list (eI (Tm.firstRow ms s0 rs.dropLast.reverse)))
        rw [hfr]
        exact nw_list hp0 (e2 _ _ hpl) (da_mono e2 hda)
end
end TK
namespace TK
open PySem PySem.Spec PyProof.Rows L2 Evl
section
variable {P : Program} {w : World} {K : PySem.W.Frag} {mg : Str → Option Value} {base : Heap}
/-! ### cover -/
structure CArg where
  d : Nat
  ms : List Tm.Mv
  bg : Tm.St
  t : Tm.St
  most : Nat
def CArg.r (a : CArg) : RArg := ⟨a.d, a.ms, a.t, a.most, some a.bg⟩
def eMoor (bg : Tm.St) (ms : List Tm.Mv) : PyData := .tuple [eS bg, eMs ms]
theorem nol_Moor (bg : Tm.St) (ms : List Tm.Mv) : nol (eMoor bg ms) = true := by
  unfold eMoor
  rw [nol, nolAll, nol_S, nolAll, nol_Ms, nolAll]
  rfl
def spCover (K : PySem.W.Frag) : Sp := spD (α := CArg) K (fun a => PreR a.r) (fun a => [eMoor a.bg a.ms, eS a.t, .int a.most]) (fun a => eA "wall" (Tm.cover a.ms a.bg a.t a.most))
theorem eA_nolist {x : Str} {a : Tm.Ans} {ds : List PyData} (z : eA x a = .list ds) : False := by cases a <;> cases z
theorem ringsF_length {ms : List Tm.Mv} {bg : Option Tm.St} {most : Nat} : ∀ (n : Nat) (pre : List (List Tm.St)) (ring : List Tm.St), (Tm.ringsF ms bg most n pre ring).2.length ≤ pre.length + n + 1 := by
  intro n
  induction n with
  | zero =>
    intro pre ring
    unfold Tm.ringsF
    split
    · simp
    · split
      · simp
      · split <;> simp
  | succ n ih =>
    intro pre ring
    unfold Tm.ringsF
    split
    · simp
    · split
      · simp
      · split
        · simp
        · have := ih (pre ++ [ring]) (Tm.stepBack ms ring)
          simp only [List.length_append, List.length_cons, List.length_nil] at this
          show (Tm.ringsF ms bg most n (pre ++ [ring]) (Tm.stepBack ms ring)).2.length ≤ _
          omega
theorem ok_cover {f fR fF : Addr} {fd fdR fdF : FuncData} {k : Nat} (F : Fun K "cover" "cover" sCover f fd) (aR : At K mg "rings_of" sRings fR fdR ["moves", "target", "most", "begin"]) (GR : FnOk P w K mg base CX0 (k + 1) fR fdR ["moves", "target", "most", "begin"] (spRings K))
    (aF : At K mg "first_row" sFirst fF fdF ["moves", "stand", "rings"]) (GF : FnOk P w K mg base CX0 (k + 1) fF fdF ["moves", "stand", "rings"] (spFirst K)) (ml : mg "len" = none) : FnOk P w K mg base CX0 (k + 1 + 1) f fd ["moor", "target", "most"] (spCover K) := by
  refine F.ok scCover (fun vs H Q E h => ?_) (fun cdv A outer s H vs Q E hr h => ?_)
  · obtain ⟨a, h, _⟩ := h; exact da_length h
  · obtain ⟨⟨d, ms, bg, t, most⟩, hd, hp, q⟩ := h
    have hp : PreR ⟨d, ms, t, most, some bg⟩ := hp
    have lbg : bg.length = d := hp.lb bg rfl
    obtain ⟨pre, top, er, T⟩ := Tm.rings_told (bg := some bg) (most := most) hp.lm hp.pm hp.lt hp.pt
    cases hd with
    | cons d1 hd =>
    cases hd with
    | cons d2 hd =>
    cases hd with
    | cons d3 hd =>
    cases hd
    rename_i v1 v2 v3
    have d1 : Dp K H v1 (eMoor bg ms) := d1
    have d2 : Dp K H v2 (eS t) := d2
    have d3 : Dp K H v3 (.int (most : Int)) := d3
    have q : ∀ v H', Ex H H' → Dp K H' v (eA "wall" (Tm.cover ms bg t most)) → Q v H' := fun v H' e hv => q v H' e hv (nw_of fun ds z => eA_nolist z)
    refine ⟨_, pss_cons (ps_asg (pe_call GR hr (by rfl) aR.g aR.F.kp aR.b .nil pass0 (pa_cons (pe_ix ix_tup (pv 0) pe_int (fun _ _ => rfl)) (pa_cons (pv 1) (pa_cons (pv 2) (pa_cons (pe_ix ix_tup (pv 0) pe_int (fun _ _ => rfl)) pa_nil))))) (pg_tup rfl (pgs_cons (pg_name (i := 3) scCover.nd rfl (.inl rfl)) (pgs_cons (pg_name (i := 4) scCover.nd rfl (.inl rfl)) pgs_nil))))
      (pss_cons (ps_if (pt_cmpR op_eq (pv 3) pe_str (nomark _)) (pss_one (ps_ret (pe_tup (pa_cons pe_str (pa_cons (pe_call GF hr (by rfl) aF.g aF.F.kp aF.b .nil pass0 (pa_cons (pe_ix ix_tup (pv 0) pe_int (fun _ _ => rfl)) (pa_cons (pe_ix ix_tup (pv 0) pe_int (fun _ _ => rfl)) (pa_cons (pv 4) pa_nil)))) pa_nil))))) pss_nil)
      (pss_cons (ps_if (pt_cmpR op_eq (pv 3) pe_str (nomark _)) (pss_one (ps_ret (pe_tup (pa_cons pe_str (pa_cons (pe_op op_sub (pe_callB call_len_seq (by rfl) ml PySem.boot_len (pa_cons (pv 4) pa_nil)) pe_int) pa_nil))))) pss_nil)
      (pss_one (ps_ret (pe_tup (pa_cons pe_str (pa_cons (pe_ix ix_list (pv 4) (pe_un un_neg pe_int) (fun _ _ => rfl)) pa_nil))))))), ?_⟩
    have em : ∀ (σ : L2.St) (H1 : Hp), Ex H H1 → σ[0]? = some (some v1) → ED K (tOp (rIxT K) (tVar 0) (tC (.int 1))) σ H1 (eMs ms) := fun σ H1 e hσ => ed_ixT (ds := [eS bg, eMs ms]) (ed_var hσ (dp_mono e d1)) ed_int (atI_nat (j := 1) rfl)
    have eb : ∀ (σ : L2.St) (H1 : Hp), Ex H H1 → σ[0]? = some (some v1) → ED K (tOp (rIxT K) (tVar 0) (tC (.int 0))) σ H1 (eS bg) := fun σ H1 e hσ => ed_ixT (ds := [eS bg, eMs ms]) (ed_var hσ (dp_mono e d1)) ed_int (atI_nat (j := 0) rfl)
    have er0 : ED K (tCall (spRings K) [] E0 (tCons (tOp (rIxT K) (tVar 0) (tC (.int 1))) (tCons (tVar 1) (tCons (tVar 2) (tCons (tOp (rIxT K) (tVar 0) (tC (.int 0))) tNil))))) (start ["moor", "target", "most", "word", "rings"] [v1, v2, v3]) H (.tuple [.str (wd (Tm.rings ms (some bg) t most).1), .list ((Tm.rings ms (some bg) t most).2.map eB)]) :=
      ed_call (K := K) (⟨d, ms, t, most, some bg⟩ : RArg) (ea_cons (em _ H (Ex.refl H) rfl) (ea_cons (ed_var rfl d2) (ea_cons (ed_var rfl d3) (ea_cons (eb _ H (Ex.refl H) rfl) ea_nil)))) hp
    have hrl : (pre ++ [top]).length ≤ most + 1 := by
      rw [← er]
      have := ringsF_length (ms := ms) (bg := some bg) (most := most) most [] (Tm.least [t])
      simpa [Tm.rings] using this
    have hm6 : most ≤ 6 := hp.most
    rw [er] at er0
    refine q_asgPair er0 fun x y H1 e1 hx hy => ?_
    have hen : Tm.cover ms bg t most = Tm.answer ms bg ((Tm.rings ms (some bg) t most).1, pre ++ [top]) := by
      unfold Tm.cover
      rw [← er]
    revert hen T hx
    generalize (Tm.rings ms (some bg) t most).1 = ww
    intro T hx hen
    have t1 := ed_eqS (K := K) (σ := [some v1, some v2, some v3, some x, some y]) (H := H1) (ed_var (i := 3) rfl hx) (ed_str (x := "row"))
    rw [wd_row] at t1
    refine q_if (et_T t1) (fun c H2 e2 => ?_) (fun c H2 e2 => ?_)
    · have c : ww = .row := of_decide_eq_true c
      subst c
      have e02 := e1.trans e2
      have hF : ED K (tCall (spFirst K) [] E0 (tCons (tOp (rIxT K) (tVar 0) (tC (.int 1))) (tCons (tOp (rIxT K) (tVar 0) (tC (.int 0))) (tCons (tVar 4) tNil)))) [some v1, some v2, some v3, some x, some y] H2 (.list (eI (Tm.firstRow ms bg (pre ++ [top]).dropLast.reverse))) :=
        ed_call (K := K) (⟨d, ms, bg, pre ++ [top]⟩ : FArg) (ea_cons (em _ H2 e02 rfl) (ea_cons (eb _ H2 e02 rfl) (ea_cons (ed_var rfl (dp_mono e2 hy)) ea_nil))) ⟨hp.many, hp.lm, lbg, fun r hr => by
          rcases List.mem_append.mp hr with h | h
          · exact Tm.dn_lens T.dn r (List.mem_reverse.mpr h)
          · have e : r = top := by simpa using h
            rw [e]; exact T.len, by
          show Tm.RowOk ms bg (pre ++ [top]).dropLast.reverse
          rw [List.dropLast_concat]
          exact Tm.told_row hp.lm lbg T, by show (pre ++ [top]).length ≤ 1000; omega⟩
      refine s_retD (ed_tup (ea_cons ed_str (ea_cons hF ea_nil)) (by show 2 ≤ 100000; omega)) fun v H3 e3 hv => q v H3 (e02.trans e3) ?_
      rw [hen]
      exact hv
    · have c : ww ≠ .row := of_decide_eq_false c
      have t2 := ed_eqS (K := K) (σ := [some v1, some v2, some v3, some x, some y]) (H := H2) (ed_var (i := 3) rfl (dp_mono e2 hx)) (ed_str (x := "open"))
      rw [wd_open] at t2
      refine q_if (et_T t2) (fun c2 H3 e3 => ?_) (fun c2 H3 e3 => ?_)
      · have c2 : ww = .opn := of_decide_eq_true c2
        subst c2
        have hl := ed_lenL (K := K) (σ := [some v1, some v2, some v3, some x, some y]) (H := H3) (te := tVar 4) (ed_var rfl (dp_mono (e2.trans e3) hy))
        rw [List.length_map, List.length_append, List.length_singleton] at hl
        refine s_retD (ed_tup (ea_cons ed_str (ea_cons (ed_I0 hl ed_int) ea_nil)) (by show 2 ≤ 100000; omega)) fun v H4 e4 hv => q v H4 (((e1.trans e2).trans e3).trans e4) ?_
        rw [hen]
        show Dp K H4 v (.tuple [.str "open", .int (((pre ++ [top]).length - 1 : Nat) : Int)])
        rw [List.length_append, List.length_singleton, Nat.add_sub_cancel]
        rw [show (((pre.length + 1 : Nat) : Int) - 1) = (pre.length : Int) by omega] at hv
        exact hv
      · have c2 : ww ≠ .opn := of_decide_eq_false c2
        refine s_retD (ed_tup (ea_cons ed_str (ea_cons (ed_last (ed_var rfl (dp_mono (e2.trans e3) hy))) ea_nil)) (by show 2 ≤ 100000; omega)) fun v H4 e4 hv => q v H4 (((e1.trans e2).trans e3).trans e4) ?_
        rw [hen]
        cases ww with
        | row => exact absurd rfl c
        | opn => exact absurd rfl c2
        | bas =>
          show Dp K H4 v (.tuple [.str "wall", eB ((pre ++ [top]).getLastD [])])
          rw [List.getLastD_concat]
          exact hv
/-! ### never -/
structure NArg where
  d : Nat
  ms : List Tm.Mv
  bg : Tm.St
  most : Nat
structure PreN (a : NArg) : Prop where
  one : 1 ≤ a.d
  many : a.d ≤ 1000
  lm : Tm.LenM a.d a.ms
  pm : Tm.PosM a.ms
  lb : a.bg.length = a.d
  fm : a.ms.length ≤ 8
  most : a.most ≤ 6
def spNever (K : PySem.W.Frag) : Sp := spD (α := NArg) K PreN (fun a => [eMoor a.bg a.ms, .int a.most]) (fun a => .list ((Tm.never a.ms a.bg a.most).map eN))
/-- the first word of an answer -/
def wA : Tm.Ans → Str
  | .row _ => "row"
  | .opn _ => "open"
  | .wall _ => "wall"
theorem eA_shape (a : Tm.Ans) : ∃ y, eA "wall" a = .tuple [.str (wA a), y] := by
  cases a with
  | row r => exact ⟨_, rfl⟩
  | opn k => exact ⟨_, rfl⟩
  | wall b => exact ⟨_, rfl⟩
theorem wA_open (a : Tm.Ans) : decide (wA a = "open") = (Tm.tell a).isNone := by
  cases a with
  | row r => show decide (("row" : Str) = "open") = false; decide +kernel
  | opn k => show decide (("open" : Str) = "open") = true; decide +kernel
  | wall b => show decide (("wall" : Str) = "open") = false; decide +kernel
theorem wA_wall (a : Tm.Ans) (h : (Tm.tell a).isNone = false) : eN (Tm.tell a) = .bool (decide (wA a = "wall")) := by
  cases a with
  | row r => 
    show PyData.bool false = .bool (decide (("row" : Str) = "wall"))
    rw [show decide (("row" : Str) = "wall") = false by decide +kernel]
  | opn k => cases h
  | wall b =>
    show PyData.bool true = .bool (decide (("wall" : Str) = "wall"))
    rw [show decide (("wall" : Str) = "wall") = true by decide +kernel]
theorem ok_never {f fC : Addr} {fd fdC : FuncData} {k : Nat} (F : Fun K "never" "never" sNever f fd) (aC : At K mg "cover" sCover fC fdC ["moor", "target", "most"]) (GC : FnOk P w K mg base CX0 (k + 1) fC fdC ["moor", "target", "most"] (spCover K)) : FnOk P w K mg base CX0 (k + 1 + 1) f fd ["moor", "most"] (spNever K) := by
  refine F.ok scNever (fun vs H Q E h => ?_) (fun cdv A outer s H vs Q E hr h => ?_)
  · obtain ⟨a, h, _⟩ := h; exact da_length h
  · obtain ⟨⟨d, ms, bg, most⟩, hd, hp, q⟩ := h
    have fms : ms.length ≤ 8 := hp.fm
    have lm : Tm.LenM d ms := hp.lm
    have pm : Tm.PosM ms := hp.pm
    cases hd with
    | cons d1 hd =>
    cases hd with
    | cons d2 hd =>
    cases hd
    rename_i v1 v2
    have d1 : Dp K H v1 (eMoor bg ms) := d1
    have d2 : Dp K H v2 (.int (most : Int)) := d2
    refine ⟨_, pss_cons (ps_set (i := 2) scNever.nd rfl (.inl rfl) (pe_lst pa_nil))
      (pss_cons (ps_for PassesOwn.never rfl (pi_tup (pe_ix ix_tup (pv 0) pe_int (fun _ _ => rfl))) (pg_tup rfl (pgs_cons (pg_name (i := 3) scNever.nd rfl (.inl rfl)) (pgs_cons (pg_name (i := 4) scNever.nd rfl (.inl rfl)) pgs_nil)))
        (pss_cons (ps_set (i := 5) scNever.nd rfl (.inl rfl) (pe_ix ix_tup (pe_call GC hr (by rfl) aC.g aC.F.kp aC.b .nil pass0 (pa_cons (pv 0) (pa_cons (pv 3) (pa_cons (pv 1) pa_nil)))) pe_int (fun _ _ => rfl)))
        (pss_one (ps_if (pt_cmpR op_eq (pv 5) pe_str (nomark _))
          (pss_one (ps_expr (pe_bm PySem.F.plainAttrs_list PySem.F.slot_list_append PySem.F.type_list_append mt_append (pv 2) (pa_cons pe_non pa_nil))))
          (pss_one (ps_expr (pe_bm PySem.F.plainAttrs_list PySem.F.slot_list_append PySem.F.type_list_append mt_append (pv 2) (pa_cons (pe_cmpR op_eq (pv 5) pe_str (nomark _)) pa_nil))))))))
      (pss_one (ps_ret (pv 2)))), ?_⟩
    refine q_asgN (K := K) (ds := []) (en_lst ea_nil (Nat.zero_le _)) fun p vs0 H0 hp0 e0 hf0 hd0 => ?_
    cases hd0
    obtain ⟨a0, x0, rfl, hm1, hm2⟩ := dp_tup d1
    cases hm2 with
    | cons hx0 hm2 =>
    cases hm2 with
    | cons hx1 hm2 =>
    cases hm2
    rename_i y0 y1
    obtain ⟨a, us, rfl, g1, g2⟩ := dp_tup hx1
    have g2 : DpAll K H us (ms.map eM) := g2
    have hlen := da_length g2
    rw [List.length_map] at hlen
    refine ⟨.ref a0, rfl, a0, _, 1, .ref a, rfl, rfl, ex_t e0 hm1, atI_nat (j := 1) rfl, a, rfl, ⟨us, ex_t e0 g1⟩, for_tup (K := K) (a := a) (xs := us) (fun i σ H' => ∃ ws y3 y4 y5, σ = [some (.ref a0), some v2, some (.ref p), y3, y4, y5] ∧ Ex H H' ∧ H' p = some (.lst ws) ∧ DpAll K H' ws (((ms.take i).map fun m => Tm.tell (Tm.cover ms bg m.1 most)).map eN)) ?_ (fun i σ H' _ pp => ?_) (fun i x σ H' hx pp => ?_) (fun σ H' pp => ?_)⟩
    · exact ⟨[], none, none, none, rfl, e0, hf0, .nil⟩
    · obtain ⟨ws, y3, y4, y5, _, e, _⟩ := pp
      exact ex_t e g1
    · obtain ⟨ws, y3, y4, y5, rfl, e, hpl, hda⟩ := pp
      obtain ⟨m, hm, hdm⟩ := map_get g2 hx
      have hmm : m ∈ ms := List.mem_of_getElem? hm
      obtain ⟨am, z1, z2, rfl, s1, s2, s3⟩ := dp_M (dp_mono e hdm)
      refine ⟨am, _, rfl, s1, rfl, _, _, rfl, _, _, rfl, rfl, ?_⟩
      obtain ⟨yy, hsh⟩ := eA_shape (Tm.cover ms bg m.1 most)
      have hpre : PreR ⟨d, ms, m.1, most, some bg⟩ := ⟨hp.one, hp.many, lm, pm, (lm m hmm).1, (pm m hmm).1, fun b z => by cases z; exact hp.lb, fms, hp.most⟩
      have ec : ED K (tCall (spCover K) [] E0 (tCons (tVar 0) (tCons (tVar 3) (tCons (tVar 1) tNil)))) [some (.ref a0), some v2, some (.ref p), some z1, some z2, y5] H' (eA "wall" (Tm.cover ms bg m.1 most)) :=
        ed_call (K := K) (⟨d, ms, bg, m.1, most⟩ : CArg) (ea_cons (ed_var rfl (dp_mono e d1)) (ea_cons (ed_var rfl s2) (ea_cons (ed_var rfl (dp_mono e d2)) ea_nil))) hpre
      rw [hsh] at ec
      refine q_asgD (ed_ixT (k := 0) ec ed_int (atI_nat (j := 0) rfl)) fun v5 H2 e2 hv5 => ?_
      have hz : ws.length < 100000 := by
        have := da_length hda
        rw [List.length_map, List.length_map, List.length_take] at this
        omega
      have t1 := ed_eqS (K := K) (σ := [some (.ref a0), some v2, some (.ref p), some z1, some z2, some v5]) (H := H2) (ed_var (i := 5) rfl hv5) (ed_str (x := "open"))
      rw [wA_open] at t1
      have fin : ∀ (H3 : Hp) (v6 : V) (H4 : Hp), Ex H2 H3 → Ex H3 H4 → Dp K H4 v6 (eN (Tm.tell (Tm.cover ms bg m.1 most))) → DpAll K (upd H4 p (.lst (ws ++ [v6]))) (ws ++ [v6]) (((ms.take (i + 1)).map fun m => Tm.tell (Tm.cover ms bg m.1 most)).map eN) := fun H3 v6 H4 e3 e4 hv6 => by
        have hpl4 : H4 p = some (.lst ws) := e4 _ _ (e3 _ _ (e2 _ _ hpl))
        rw [take_snoc hm, List.map_append, List.map_append]
        exact da_upd hpl4 (nolAll_append (nolAll_map nol_N _) (by rw [List.map_singleton, List.map_singleton, nolAll, nol_N]; rfl)) (da_snoc (da_mono ((e2.trans e3).trans e4) hda) hv6)
      refine s_if (et_T t1) (fun c H3 e3 => ?_) (fun c H3 e3 => ?_)
      · refine s_appD (K := K) (d := .none) (e3 _ _ (e2 _ _ hpl)) rfl ed_non hz fun v6 H4 e4 hv6 => ?_
        refine ⟨_, _, _, _, rfl, Ex.mut (((e.trans e2).trans e3).trans e4) hp0, upd_same, fin H3 v6 H4 e3 e4 ?_⟩
        have : Tm.tell (Tm.cover ms bg m.1 most) = none := Option.isNone_iff_eq_none.mp c
        rw [this]
        exact hv6
      · have c : (Tm.tell (Tm.cover ms bg m.1 most)).isNone = false := c
        refine s_appD (K := K) (d := .bool (decide (wA (Tm.cover ms bg m.1 most) = "wall"))) (e3 _ _ (e2 _ _ hpl)) rfl (ed_eqS (ed_var rfl (dp_mono e3 hv5)) ed_str) hz fun v6 H4 e4 hv6 => ?_
        refine ⟨_, _, _, _, rfl, Ex.mut (((e.trans e2).trans e3).trans e4) hp0, upd_same, fin H3 v6 H4 e3 e4 ?_⟩
        rw [wA_wall _ c]
        exact hv6
    · obtain ⟨ws, y3, y4, y5, rfl, e, hpl, hda⟩ := pp
      rw [hlen, List.take_length] at hda
      refine s_ret (ev_var rfl) fun H2 e2 => ?_
      exact q _ _ (e.trans e2) (.lst (.inl (.inl (e2 _ _ hpl))) (da_mono e2 hda)) (nw_list hp0 (e2 _ _ hpl) (da_mono e2 hda))
end
end TK
namespace TK
open PySem PySem.Spec PyProof.Rows L2 Evl
abbrev sCell : Stmt := topS 21
abbrev sStream : Stmt := topS 22
abbrev sCount : Stmt := topS 23
abbrev sScaled : Stmt := topS 26
abbrev sPutSo : Stmt := topS 27
abbrev sAllScaled : Stmt := topS 28
abbrev sAllPutSo : Stmt := topS 29
theorem scCell : FnScope ["_law_script", "_law_k"] ["_law_script", "_law_k"] (defScope sCell) := ⟨rfl, rfl, rfl, by decide +kernel, rfl, by decide +kernel, by decide +kernel⟩
theorem scStream : FnScope ["_law_cell", "_law_salt", "_law_many", "_law_found", "_law_number", "_law_k"] ["_law_cell", "_law_salt", "_law_many"] (defScope sStream) := ⟨rfl, rfl, rfl, by decide +kernel, rfl, by decide +kernel, by decide +kernel⟩
theorem scCount : FnScope ["_law_x", "_law_kind"] ["_law_x", "_law_kind"] (defScope sCount) := ⟨rfl, rfl, rfl, by decide +kernel, rfl, by decide +kernel, by decide +kernel⟩
theorem scScaled : FnScope ["_law_stand", "_law_factor", "_law_number"] ["_law_stand", "_law_factor"] (defScope sScaled) := ⟨rfl, rfl, rfl, by decide +kernel, rfl, by decide +kernel, by decide +kernel⟩
theorem scPutSo : FnScope ["_law_stand", "_law_order_here", "_law_k"] ["_law_stand", "_law_order_here"] (defScope sPutSo) := ⟨rfl, rfl, rfl, by decide +kernel, rfl, by decide +kernel, by decide +kernel⟩
theorem scAllScaled : FnScope ["_law_moves_here", "_law_factor", "_law_move"] ["_law_moves_here", "_law_factor"] (defScope sAllScaled) := ⟨rfl, rfl, rfl, by decide +kernel, rfl, by decide +kernel, by decide +kernel⟩
theorem scAllPutSo : FnScope ["_law_moves_here", "_law_order_here", "_law_move"] ["_law_moves_here", "_law_order_here"] (defScope sAllPutSo) := ⟨rfl, rfl, rfl, by decide +kernel, rfl, by decide +kernel, by decide +kernel⟩
section
variable {P : Program} {w : World} {K : PySem.W.Frag} {mg : Str → Option Value} {base : Heap}
def eL (ns : List Int) : PyData := .list (ns.map PyData.int)
/-! ### a cell of the script -/
def spCell (K : PySem.W.Frag) : Sp := spD (α := List Int × Nat) K (fun _ => True) (fun a => [eL a.1, .int (a.2 : Int)]) (fun a => .int (a.1.getD a.2 0))
theorem ok_cell {f : Addr} {fd : FuncData} {k : Nat} (F : Fun K "_law_cell_at" "_law_cell_at" sCell f fd) (ml : mg "len" = none) : FnOk P w K mg base CX0 (k + 1) f fd ["_law_script", "_law_k"] (spCell K) := by
  refine F.ok scCell (fun vs H Q E h => ?_) (fun cdv A outer s H vs Q E hr h => ?_)
  · obtain ⟨a, h, _⟩ := h; exact da_length h
  · obtain ⟨⟨ns, j⟩, hd, _, q⟩ := h
    cases hd with
    | cons d1 hd =>
    cases hd with
    | cons d2 hd =>
    cases hd
    rename_i v1 v2
    have d1 : Dp K H v1 (eL ns) := d1
    have d2 : Dp K H v2 (.int (j : Int)) := d2
    refine ⟨_, pss_cons (ps_if (pt_cmpR op_lt (pv 1) (pe_callB call_len_seq (by rfl) ml PySem.boot_len (pa_cons (pv 0) pa_nil)) (nomark _)) (pss_one (ps_ret (pe_ix ix_list (pv 0) (pv 1) (fun _ _ => rfl)))) pss_nil)
      (pss_one (ps_ret pe_int)), ?_⟩
    have hl := ed_lenL (K := K) (σ := [some v1, some v2]) (H := H) (te := tVar 0) (ed_var rfl d1)
    rw [List.length_map] at hl
    refine q_if (et_T (ed_B0 (g := fun i j => decide (i < j)) (ed_var rfl d2) hl)) (fun c H1 e1 => ?_) (fun c H1 e1 => ?_)
    · have c : (j : Int) < (ns.length : Int) := of_decide_eq_true c
      have hj : j < ns.length := by omega
      have hg : (ns.map PyData.int)[j]? = some (.int (ns.getD j 0)) := by
        rw [List.getElem?_map, List.getD_eq_getElem?_getD, List.getElem?_eq_getElem hj]
        rfl
      refine s_retD (ed_ixL (K := K) (d := .int (ns.getD j 0)) (ed_var rfl (dp_mono e1 d1)) (ed_var rfl (dp_mono e1 d2)) (atI_nat hg)) ?_
      intro v H2 e2 hv
      exact q v H2 (e1.trans e2) hv (nw_of fun ds z => by cases z)
    · have c : ¬ (j : Int) < (ns.length : Int) := of_decide_eq_false c
      show tRet (tC (.int 0)) { nx := fun _ H' => Q .non H', rt := Q } [some v1, some v2] H1
      refine s_retD (K := K) (ed_int (i := 0)) ?_
      intro v H2 e2 hv
      refine q v H2 (e1.trans e2) ?_ (nw_of fun ds z => by cases z)
      show Dp K H2 v (.int (ns.getD j 0))
      rw [List.getD_eq_getElem?_getD, List.getElem?_eq_none (by omega)]
      exact hv
/-! ### a stream of numbers -/
structure PreStream (a : Int × Nat × Nat) : Prop where
  salt : a.2.1 ≤ 100
  many : a.2.2 ≤ 100
def IsStream (many : Nat) (r : PyData) : Prop := ∃ ns : List Int, r = eL ns ∧ ns.length = many
def spStream (K : PySem.W.Frag) : Sp := spN (α := Int × Nat × Nat) K PreStream (fun a => [.int a.1, .int (a.2.1 : Int), .int (a.2.2 : Int)]) (fun a r => IsStream a.2.2 r)
theorem ok_stream {f : Addr} {fd : FuncData} {k : Nat} (F : Fun K "_law_stream" "_law_stream" sStream f fd) (mr : mg "range" = none) : FnOk P w K mg base CX0 (k + 1) f fd ["_law_cell", "_law_salt", "_law_many"] (spStream K) := by
  refine F.ok scStream (fun vs H Q E h => ?_) (fun cdv A outer s H vs Q E hr h => ?_)
  · obtain ⟨a, h, _⟩ := h; exact da_length h
  · obtain ⟨⟨c, salt, many⟩, hd, hp, q⟩ := h
    have hsalt : salt ≤ 100 := hp.salt
    have hmany : many ≤ 100 := hp.many
    cases hd with
    | cons d1 hd =>
    cases hd with
    | cons d2 hd =>
    cases hd with
    | cons d3 hd =>
    cases hd
    cases dp_int d1
    cases dp_int d2
    cases dp_int d3
    refine ⟨_, pss_cons (ps_set (i := 3) scStream.nd rfl (.inl rfl) (pe_lst pa_nil))
      (pss_cons (ps_set (i := 4) scStream.nd rfl (.inl rfl) (pe_op op_mod (pe_op op_add (pe_op op_add (pe_op op_mul (pe_op op_mod (pv 0) pe_int) pe_int) (pe_op op_mul (pe_op op_mul (pv 1) (pv 1)) pe_int)) pe_int) pe_int))
      (pss_cons (ps_for PassesOwn.never rfl (pi_range1 (by rfl) mr (pa_cons (pv 2) pa_nil)) (pg_name (i := 5) scStream.nd rfl (.inl rfl))
        (pss_cons (ps_set (i := 4) scStream.nd rfl (.inl rfl) (pe_op op_mod (pe_op op_add (pe_op op_add (pe_op op_add (pe_op op_mul (pv 4) (pv 4)) (pe_op op_mul pe_int (pv 4))) (pv 5)) (pv 1)) pe_int))
        (pss_one (ps_expr (pe_bm PySem.F.plainAttrs_list PySem.F.slot_list_append PySem.F.type_list_append mt_append (pv 3) (pa_cons (pv 4) pa_nil))))))
      (pss_one (ps_ret (pv 3))))), ?_⟩
    refine q_asgN (K := K) (ds := []) (en_lst ea_nil (Nat.zero_le _)) fun p vs0 H0 hp0 e0 hf0 hd0 => ?_
    cases hd0
    have ev := fun (i : Nat) (n : Int) (σ : L2.St) (H : Hp) (h : σ[i]? = some (some (.int n))) => ed_var (K := K) (H := H) (d := .int n) h (.int n)
    refine q_asgD (K := K) (ed_I (C := fun _ j => 0 < j) (g := fun i j => i % j) (ed_I0 (g := fun i j => i + j) (ed_I0 (g := fun i j => i + j) (ed_I (C := CMul) (g := fun i j => i * j) (ed_I (C := fun _ j => 0 < j) (g := fun i j => i % j) (ev 0 c _ _ rfl) ed_int (by decide)) ed_int (.inr (by decide)))
      (ed_I (C := CMul) (g := fun i j => i * j) (ed_I (C := CMul) (g := fun i j => i * j) (ev 1 _ _ _ rfl) (ev 1 _ _ _ rfl) (.inl ⟨by show -(2 ^ 64 : Int) < (salt : Int); omega, by show (salt : Int) < 2 ^ 64; omega⟩)) ed_int (.inr (by decide)))) ed_int) ed_int (by decide)) fun v4 H1 e1 hv4 => ?_
    cases dp_int hv4
    refine q_forR1 (j := 5) (n := (many : Int)) (Evl.ea_cons (ev_var rfl) Evl.ea_nil) ⟨by omega, by omega⟩ (fun i σ H' => ∃ (num : Int) (y5 : Option V) (ws : List V) (ns : List Int), σ = [some (.int c), some (.int (salt : Int)), some (.int (many : Int)), some (.ref p), some (.int num), y5] ∧ (0 ≤ num ∧ num < 2147483647) ∧ Ex H H' ∧ H' p = some (.lst ws) ∧ DpAll K H' ws (ns.map PyData.int) ∧ ns.length = i) ?_ ?_ ?_
    · intro H2 e2
      exact ⟨_, none, [], [], rfl, ⟨Int.emod_nonneg _ (by decide), Int.emod_lt_of_pos _ (by decide)⟩, (e0.trans e1).trans e2, e2 _ _ (e1 _ _ hf0), .nil, rfl⟩
    · intro i σ' H' hi pp
      obtain ⟨num, y5, ws, ns, rfl, ⟨hn0, hn1⟩, e, hpl, hda, hns⟩ := pp
      refine q_asgD (K := K) (ed_I (C := fun _ j => 0 < j) (g := fun i j => i % j) (ed_I0 (g := fun i j => i + j) (ed_I0 (g := fun i j => i + j) (ed_I0 (g := fun i j => i + j) (ed_I (C := CMul) (g := fun i j => i * j) (ev 4 num _ _ rfl) (ev 4 num _ _ rfl) (.inl ⟨by omega, by omega⟩)) (ed_I (C := CMul) (g := fun i j => i * j) ed_int (ev 4 num _ _ rfl) (.inl (by decide)))) (ev 5 _ _ _ rfl)) (ev 1 _ _ _ rfl)) ed_int (by decide)) fun v4 H1 e1 hv4 => ?_
      cases dp_int hv4
      have hz : ws.length < 100000 := by
        have := da_length hda
        rw [List.length_map] at this
        omega
      refine s_appD (K := K) (d := .int _) (e1 _ _ hpl) rfl (ed_var rfl (.int _)) hz fun v5 H3 e3 hv5 => ?_
      refine ⟨_, _, ws ++ [v5], ns ++ [(num * num + 48271 * num + (i : Int) + (salt : Int)) % 2147483647], rfl, ⟨Int.emod_nonneg _ (by decide), Int.emod_lt_of_pos _ (by decide)⟩, Ex.mut ((e.trans e1).trans e3) hp0, upd_same, ?_, by rw [List.length_append, hns]; rfl⟩
      rw [List.map_append]
      exact da_upd (e3 _ _ (e1 _ _ hpl)) (nolAll_append (nolAll_map nol_int ns) (by rw [List.map_singleton, nolAll, nol_int]; rfl)) (da_snoc (da_mono (e1.trans e3) hda) hv5)
    · intro σ' H' pp
      obtain ⟨num, y5, ws, ns, rfl, ⟨hn0, hn1⟩, e, hpl, hda, hns⟩ := pp
      rw [Int.toNat_natCast] at hns
      refine s_ret (ev_var rfl) fun H2 e2 => ?_
      exact q (eL ns) _ _ ⟨ns, rfl, hns⟩ (e.trans e2) (.lst (.inl (.inl (e2 _ _ hpl))) (da_mono e2 hda)) (nw_list hp0 (e2 _ _ hpl) (da_mono e2 hda))
/-! ### a count -/
def cnt (x k : Int) : Int := if k = 0 then x % 3 else x % 2 * (x / 2 % 3 / 2 + 1)
theorem cnt_pos (x k : Int) : 0 ≤ cnt x k := by
  unfold cnt
  split
  · omega
  · refine Int.mul_nonneg (by omega) (by omega)
def spCount (K : PySem.W.Frag) : Sp := spD (α := Int × Int) K (fun _ => True) (fun a => [.int a.1, .int a.2]) (fun a => .int (cnt a.1 a.2))
theorem ok_count {f : Addr} {fd : FuncData} {k : Nat} (F : Fun K "_law_count" "_law_count" sCount f fd) : FnOk P w K mg base CX0 (k + 1) f fd ["_law_x", "_law_kind"] (spCount K) := by
  refine F.ok scCount (fun vs H Q E h => ?_) (fun cdv A outer s H vs Q E hr h => ?_)
  · obtain ⟨a, h, _⟩ := h; exact da_length h
  · obtain ⟨⟨x, y⟩, hd, _, q⟩ := h
    cases hd with
    | cons d1 hd =>
    cases hd with
    | cons d2 hd =>
    cases hd
    cases dp_int d1
    cases dp_int d2
    refine ⟨_, pss_cons (ps_if (pt_cmpR op_eq (pv 1) pe_int (nomark _)) (pss_one (ps_ret (pe_op op_mod (pv 0) pe_int))) pss_nil)
      (pss_one (ps_ret (pe_op op_mul (pe_op op_mod (pv 0) pe_int) (pe_op op_add (pe_op op_fdiv (pe_op op_mod (pe_op op_fdiv (pv 0) pe_int) pe_int) pe_int) pe_int)))), ?_⟩
    have ev := fun (i : Nat) (n : Int) (σ : L2.St) (H : Hp) (h : σ[i]? = some (some (.int n))) => ed_var (K := K) (H := H) (d := .int n) h (.int n)
    refine q_if (et_T (K := K) (ed_eqI (ev 1 y _ _ rfl) ed_int)) (fun c H1 e1 => ?_) (fun c H1 e1 => ?_)
    · have c : y = 0 := of_decide_eq_true c
      refine s_retD (K := K) (ed_I (C := fun _ j => 0 < j) (g := fun i j => i % j) (ev 0 x _ _ rfl) ed_int (by decide)) fun v H2 e2 hv => q v H2 (e1.trans e2) ?_ (nw_of fun ds z => by cases z)
      show Dp K H2 v (.int (cnt x y))
      unfold cnt
      rw [if_pos c]
      exact hv
    · have c : ¬ y = 0 := of_decide_eq_false c
      refine s_retD (K := K) (ed_I (C := CMul) (g := fun i j => i * j) (ed_I (C := fun _ j => 0 < j) (g := fun i j => i % j) (ev 0 x _ _ rfl) ed_int (by decide)) (ed_I0 (g := fun i j => i + j) (ed_I (C := CDiv) (g := fun i j => i / j) (ed_I (C := fun _ j => 0 < j) (g := fun i j => i % j) (ed_I (C := CDiv) (g := fun i j => i / j) (ev 0 x _ _ rfl) ed_int ⟨by decide, by decide⟩) ed_int (by decide)) ed_int ⟨by decide, by decide⟩) ed_int) (.inl ⟨by show -(2 ^ 64 : Int) < x % 2; omega, by show x % 2 < 2 ^ 64; omega⟩)) fun v H2 e2 hv => q v H2 (e1.trans e2) ?_ (nw_of fun ds z => by cases z)
      show Dp K H2 v (.int (cnt x y))
      unfold cnt
      rw [if_neg c]
      exact hv
/-! ### scaled, in another order -/
def scl (k : Int) (s : Tm.St) : Tm.St := s.map fun x => x * k
def put (o : List Nat) (s : Tm.St) : Tm.St := o.map fun i => s.getD i 0
structure PreScaled (a : Tm.St × Int) : Prop where
  lo : 0 ≤ a.2
  hi : a.2 < 2 ^ 64
  most : a.1.length ≤ 1000
def spScaled (K : PySem.W.Frag) : Sp := spD (α := Tm.St × Int) K PreScaled (fun a => [eS a.1, .int a.2]) (fun a => eS (scl a.2 a.1))
theorem ok_scaled {f : Addr} {fd : FuncData} {k : Nat} (F : Fun K "_law_scaled" "_law_scaled" sScaled f fd) (mt : mg "tuple" = none) : FnOk P w K mg base CX0 (k + 1) f fd ["_law_stand", "_law_factor"] (spScaled K) := by
  refine F.ok scScaled (fun vs H Q E h => ?_) (fun cdv A outer s H vs Q E hr h => ?_)
  · obtain ⟨a, h, _⟩ := h; exact da_length h
  · obtain ⟨⟨x, k⟩, hd, hp, q⟩ := h
    have h0 : 0 ≤ k := hp.lo
    have h1 : k < 2 ^ 64 := hp.hi
    have hz : x.length ≤ 1000 := hp.most
    cases hd with
    | cons d1 hd =>
    cases hd with
    | cons d2 hd =>
    cases hd
    cases dp_int d2
    rename_i v1
    have d1 : Dp K H v1 (.tuple (x.map PyData.int)) := d1
    refine ⟨_, pss_one (ps_ret (pe_callTy call_tuple_of (by rfl) mt (by decide +kernel) (pa_cons (pe_lc (own := [("_law_number", 2)]) (g := gName 2) rfl scScaled.nd (pi_tup (pv 0))
      (blkOk_by (N := ["_law_stand", "_law_factor", "_law_number"]) (sc := defScope sScaled) (by decide +kernel))
      (fun _ _ _ _ _ => pg_name (i := 2) scScaled.nd rfl (.inl rfl)) (fun _ _ _ _ _ => pts_nil) (fun _ _ _ _ _ => pe_op op_mul (pv 2) (pv 1))) pa_nil))), ?_⟩
    have en := en_lcT (K := K) (σ := [some v1, some (.int k), none]) (H := H) (tl := tVar 0) (j := 2) (js := [2]) (tt := tYes) (te := tOp (rI CMul fun i j => .int (i * j)) (tVar 2) (tVar 1)) x PyData.int (fun _ => true) (fun a => .int (a * k)) (ed_var rfl d1) (by omega) (fun _ => nol_int _) (fun _ => rfl)
      (fun a _ y H1 e1 hy => ⟨et_yes, fun _ => ed_I (C := CMul) (g := fun i j => i * j) (ed_var rfl hy) (ed_var rfl (.int k)) (.inr ⟨by show -(2 ^ 64 : Int) < k; omega, h1⟩)⟩)
    rw [filt] at en
    refine s_retD (ed_tuple en.ed) fun v H1 e hv => q v H1 e ?_ (nw_of fun ds z => by cases z)
    show Dp K _ _ (.tuple ((x.map fun a => a * k).map PyData.int))
    rw [List.map_map]
    exact hv
structure PrePut (a : Tm.St × List Nat) : Prop where
  lo : ∀ i ∈ a.2, i < a.1.length
  most : a.2.length ≤ 1000
def spPutSo (K : PySem.W.Frag) : Sp := spD (α := Tm.St × List Nat) K PrePut (fun a => [eS a.1, .list (eI a.2)]) (fun a => eS (put a.2 a.1))
theorem ok_put {f : Addr} {fd : FuncData} {k : Nat} (F : Fun K "_law_put_so" "_law_put_so" sPutSo f fd) (mt : mg "tuple" = none) : FnOk P w K mg base CX0 (k + 1) f fd ["_law_stand", "_law_order_here"] (spPutSo K) := by
  refine F.ok scPutSo (fun vs H Q E h => ?_) (fun cdv A outer s H vs Q E hr h => ?_)
  · obtain ⟨a, h, _⟩ := h; exact da_length h
  · obtain ⟨⟨x, o⟩, hd, hp, q⟩ := h
    have hlo : ∀ i ∈ o, i < x.length := hp.lo
    have hz : o.length ≤ 1000 := hp.most
    cases hd with
    | cons d1 hd =>
    cases hd with
    | cons d2 hd =>
    cases hd
    rename_i v1 v2
    have d1 : Dp K H v1 (.tuple (x.map PyData.int)) := d1
    have d2 : Dp K H v2 (.list (o.map fun n : Nat => PyData.int (n : Int))) := d2
    refine ⟨_, pss_one (ps_ret (pe_callTy call_tuple_of (by rfl) mt (by decide +kernel) (pa_cons (pe_lc (own := [("_law_k", 2)]) (g := gName 2) (te := tOp (rIxT K) (tVar 0) (tVar 2)) rfl scPutSo.nd (pi_list (pv 1))
      (blkOk_by (N := ["_law_stand", "_law_order_here", "_law_k"]) (sc := defScope sPutSo) (by decide +kernel))
      (fun _ _ _ _ _ => pg_name (i := 2) scPutSo.nd rfl (.inl rfl)) (fun _ _ _ _ _ => pts_nil) (fun _ _ _ _ _ => pe_ix ix_tup (pv 0) (pv 2) (fun _ _ => rfl))) pa_nil))), ?_⟩
    have en := en_lcL (K := K) (σ := [some v1, some v2, none]) (H := H) (tl := tVar 1) (j := 2) (js := [2]) (tt := tYes) (te := tOp (rIxT K) (tVar 0) (tVar 2)) o (fun n : Nat => PyData.int (n : Int)) (fun _ => true) (fun i => .int (x.getD i 0)) (ed_var rfl d2) (by omega) (fun _ => nol_int _) (fun _ => rfl)
      (fun i hi y H1 e1 hy => ⟨et_yes, fun _ => ed_ixT (ed_var rfl (dp_mono e1 d1)) (ed_var rfl hy) (atI_nat (by
        rw [List.getElem?_map, List.getD_eq_getElem?_getD, List.getElem?_eq_getElem (hlo i hi)]
        rfl))⟩)
    rw [filt] at en
    refine s_retD (ed_tuple en.ed) fun v H1 e hv => q v H1 e ?_ (nw_of fun ds z => by cases z)
    show Dp K _ _ (.tuple ((o.map fun i => x.getD i 0).map PyData.int))
    rw [List.map_map]
    exact hv
/-! ### all moves -/
structure PreAllS (a : List Tm.Mv × Int) : Prop where
  lo : 0 ≤ a.2
  hi : a.2 < 2 ^ 64
  few : a.1.length ≤ 1000
  most : ∀ m ∈ a.1, m.1.length ≤ 1000 ∧ m.2.length ≤ 1000
def spAllS (K : PySem.W.Frag) : Sp := spD (α := List Tm.Mv × Int) K PreAllS (fun a => [eMs a.1, .int a.2]) (fun a => eMs (a.1.map (Tm.fm (scl a.2))))
theorem ok_allS {f fS : Addr} {fd fdS : FuncData} {k : Nat} (F : Fun K "_law_all_scaled" "_law_all_scaled" sAllScaled f fd) (aS : At K mg "_law_scaled" sScaled fS fdS ["_law_stand", "_law_factor"]) (GS : FnOk P w K mg base CX0 (k + 1) fS fdS ["_law_stand", "_law_factor"] (spScaled K)) (mt : mg "tuple" = none) : FnOk P w K mg base CX0 (k + 1 + 1) f fd ["_law_moves_here", "_law_factor"] (spAllS K) := by
  refine F.ok scAllScaled (fun vs H Q E h => ?_) (fun cdv A outer s H vs Q E hr h => ?_)
  · obtain ⟨a, h, _⟩ := h; exact da_length h
  · obtain ⟨⟨ms, k⟩, hd, hp, q⟩ := h
    have h0 : 0 ≤ k := hp.lo
    have h1 : k < 2 ^ 64 := hp.hi
    have few : ms.length ≤ 1000 := hp.few
    have most : ∀ m ∈ ms, m.1.length ≤ 1000 ∧ m.2.length ≤ 1000 := hp.most
    cases hd with
    | cons d1 hd =>
    cases hd with
    | cons d2 hd =>
    cases hd
    cases dp_int d2
    rename_i v1
    have d1 : Dp K H v1 (.tuple (ms.map eM)) := d1
    refine ⟨_, pss_one (ps_ret (pe_callTy call_tuple_of (by rfl) mt (by decide +kernel) (pa_cons (pe_lc (own := [("_law_move", 2)]) (g := gName 2) (te := tTup (tCons (tCall (spScaled K) [] E0 (tCons (tOp (rIxT K) (tVar 2) (tC (.int 0))) (tCons (tVar 1) tNil))) (tCons (tCall (spScaled K) [] E0 (tCons (tOp (rIxT K) (tVar 2) (tC (.int 1))) (tCons (tVar 1) tNil))) tNil))) rfl scAllScaled.nd (pi_tup (pv 0))
      (blkOk_by (N := ["_law_moves_here", "_law_factor", "_law_move"]) (sc := defScope sAllScaled) (by decide +kernel))
      (fun _ _ _ _ _ => pg_name (i := 2) scAllScaled.nd rfl (.inl rfl)) (fun _ _ _ _ _ => pts_nil)
      (fun _ _ _ _ _ => pe_tup (pa_cons (pe_call GS hr (by rfl) aS.g aS.F.kp aS.b .nil pass0 (pa_cons (pe_ix ix_tup (pv 2) pe_int (fun _ _ => rfl)) (pa_cons (pv 1) pa_nil))) (pa_cons (pe_call GS hr (by rfl) aS.g aS.F.kp aS.b .nil pass0 (pa_cons (pe_ix ix_tup (pv 2) pe_int (fun _ _ => rfl)) (pa_cons (pv 1) pa_nil))) pa_nil)))) pa_nil))), ?_⟩
    have en := en_lcT (K := K) (σ := [some v1, some (.int k), none]) (H := H) (tl := tVar 0) (j := 2) (js := [2]) (tt := tYes) (te := tTup (tCons (tCall (spScaled K) [] E0 (tCons (tOp (rIxT K) (tVar 2) (tC (.int 0))) (tCons (tVar 1) tNil))) (tCons (tCall (spScaled K) [] E0 (tCons (tOp (rIxT K) (tVar 2) (tC (.int 1))) (tCons (tVar 1) tNil))) tNil))) ms eM (fun _ => true) (fun m => eM (Tm.fm (scl k) m)) (ed_var rfl d1) (by omega) (fun _ => nol_M _) (fun _ => rfl)
      (fun m hm y H1 e1 hy => ⟨et_yes, fun _ => ed_tup (ea_cons (ed_call (K := K) (m.1, k) (ea_cons (ed_ixT (ed_var rfl hy) ed_int (atI_nat (j := 0) rfl)) (ea_cons (ed_var rfl (.int k)) ea_nil)) ⟨h0, h1, (most m hm).1⟩) (ea_cons (ed_call (K := K) (m.2, k) (ea_cons (ed_ixT (ed_var rfl hy) ed_int (atI_nat (j := 1) rfl)) (ea_cons (ed_var rfl (.int k)) ea_nil)) ⟨h0, h1, (most m hm).2⟩) ea_nil)) (by show 2 ≤ 100000; omega)⟩)
    rw [filt] at en
    refine s_retD (ed_tuple en.ed) fun v H1 e hv => q v H1 e ?_ (nw_of fun ds z => by cases z)
    show Dp K _ _ (.tuple ((ms.map (Tm.fm (scl k))).map eM))
    rw [List.map_map]
    exact hv
structure PreAllP (a : List Tm.Mv × List Nat) : Prop where
  few : a.1.length ≤ 1000
  lo : ∀ m ∈ a.1, ∀ i ∈ a.2, i < m.1.length ∧ i < m.2.length
  most : a.2.length ≤ 1000
def spAllP (K : PySem.W.Frag) : Sp := spD (α := List Tm.Mv × List Nat) K PreAllP (fun a => [eMs a.1, .list (eI a.2)]) (fun a => eMs (a.1.map (Tm.fm (put a.2))))
theorem ok_allP {f fS : Addr} {fd fdS : FuncData} {k : Nat} (F : Fun K "_law_all_put_so" "_law_all_put_so" sAllPutSo f fd) (aS : At K mg "_law_put_so" sPutSo fS fdS ["_law_stand", "_law_order_here"]) (GS : FnOk P w K mg base CX0 (k + 1) fS fdS ["_law_stand", "_law_order_here"] (spPutSo K)) (mt : mg "tuple" = none) : FnOk P w K mg base CX0 (k + 1 + 1) f fd ["_law_moves_here", "_law_order_here"] (spAllP K) := by
  refine F.ok scAllPutSo (fun vs H Q E h => ?_) (fun cdv A outer s H vs Q E hr h => ?_)
  · obtain ⟨a, h, _⟩ := h; exact da_length h
  · obtain ⟨⟨ms, o⟩, hd, hp, q⟩ := h
    have few : ms.length ≤ 1000 := hp.few
    have hlo : ∀ m ∈ ms, ∀ i ∈ o, i < m.1.length ∧ i < m.2.length := hp.lo
    have most : o.length ≤ 1000 := hp.most
    cases hd with
    | cons d1 hd =>
    cases hd with
    | cons d2 hd =>
    cases hd
    rename_i v1 v2
    have d1 : Dp K H v1 (.tuple (ms.map eM)) := d1
    have d2 : Dp K H v2 (.list (eI o)) := d2
    refine ⟨_, pss_one (ps_ret (pe_callTy call_tuple_of (by rfl) mt (by decide +kernel) (pa_cons (pe_lc (own := [("_law_move", 2)]) (g := gName 2) (te := tTup (tCons (tCall (spPutSo K) [] E0 (tCons (tOp (rIxT K) (tVar 2) (tC (.int 0))) (tCons (tVar 1) tNil))) (tCons (tCall (spPutSo K) [] E0 (tCons (tOp (rIxT K) (tVar 2) (tC (.int 1))) (tCons (tVar 1) tNil))) tNil))) rfl scAllPutSo.nd (pi_tup (pv 0))
      (blkOk_by (N := ["_law_moves_here", "_law_order_here", "_law_move"]) (sc := defScope sAllPutSo) (by decide +kernel))
      (fun _ _ _ _ _ => pg_name (i := 2) scAllPutSo.nd rfl (.inl rfl)) (fun _ _ _ _ _ => pts_nil)
      (fun _ _ _ _ _ => pe_tup (pa_cons (pe_call GS hr (by rfl) aS.g aS.F.kp aS.b .nil pass0 (pa_cons (pe_ix ix_tup (pv 2) pe_int (fun _ _ => rfl)) (pa_cons (pv 1) pa_nil))) (pa_cons (pe_call GS hr (by rfl) aS.g aS.F.kp aS.b .nil pass0 (pa_cons (pe_ix ix_tup (pv 2) pe_int (fun _ _ => rfl)) (pa_cons (pv 1) pa_nil))) pa_nil)))) pa_nil))), ?_⟩
    have en := en_lcT (K := K) (σ := [some v1, some v2, none]) (H := H) (tl := tVar 0) (j := 2) (js := [2]) (tt := tYes) (te := tTup (tCons (tCall (spPutSo K) [] E0 (tCons (tOp (rIxT K) (tVar 2) (tC (.int 0))) (tCons (tVar 1) tNil))) (tCons (tCall (spPutSo K) [] E0 (tCons (tOp (rIxT K) (tVar 2) (tC (.int 1))) (tCons (tVar 1) tNil))) tNil))) ms eM (fun _ => true) (fun m => eM (Tm.fm (put o) m)) (ed_var rfl d1) (by omega) (fun _ => nol_M _) (fun _ => rfl)
      (fun m hm y H1 e1 hy => ⟨et_yes, fun _ => ed_tup (ea_cons (ed_call (K := K) (m.1, o) (ea_cons (ed_ixT (ed_var rfl hy) ed_int (atI_nat (j := 0) rfl)) (ea_cons (ed_var rfl (dp_mono e1 d2)) ea_nil)) ⟨fun i hi => (hlo m hm i hi).1, most⟩) (ea_cons (ed_call (K := K) (m.2, o) (ea_cons (ed_ixT (ed_var rfl hy) ed_int (atI_nat (j := 1) rfl)) (ea_cons (ed_var rfl (dp_mono e1 d2)) ea_nil)) ⟨fun i hi => (hlo m hm i hi).2, most⟩) ea_nil)) (by show 2 ≤ 100000; omega)⟩)
    rw [filt] at en
    refine s_retD (ed_tuple en.ed) fun v H1 e hv => q v H1 e ?_ (nw_of fun ds z => by cases z)
    show Dp K _ _ (.tuple ((ms.map (Tm.fm (put o))).map eM))
    rw [List.map_map]
    exact hv
end
end TK
namespace TK
open PySem PySem.Spec PyProof.Rows L2 Evl
abbrev sMoves : Stmt := topS 24
abbrev sOrder : Stmt := topS 25
abbrev sMore : Stmt := topS 30
theorem scMoves : FnScope ["_law_script", "_law_many", "_law_kind", "_law_moves_here", "_law_k", "_law_xs", "_law_take", "_law_put", "_law_at", "_law_x"] ["_law_script", "_law_many", "_law_kind"] (defScope sMoves) := ⟨rfl, rfl, rfl, by decide +kernel, rfl, by decide +kernel, by decide +kernel⟩
theorem scOrder : FnScope ["_law_cell", "_law_many", "_law_left", "_law_order_here", "_law_k"] ["_law_cell", "_law_many"] (defScope sOrder) := ⟨rfl, rfl, rfl, by decide +kernel, rfl, by decide +kernel, by decide +kernel⟩
theorem scMore : FnScope ["_law_moves_here", "_law_many", "_law_cell", "_law_more", "_law_nothing", "_law_k"] ["_law_moves_here", "_law_many", "_law_cell"] (defScope sMore) := ⟨rfl, rfl, rfl, by decide +kernel, rfl, by decide +kernel, by decide +kernel⟩
section
variable {K : PySem.W.Frag} {σ : L2.St} {H H' : Hp} {ta tb te : TE} {tr : TA} {d e : PyData} {ds : List PyData} {v : V} {D : Ends} {tz : TS}
/-- a call of whose answer something is known, given to a name -/
theorem q_asgS {α : Type} {Pre : α → Prop} {arg : α → List PyData} {res : α → PyData → Prop} {E : XK} {i : Nat} (a : α) (ha : EAs K tr σ H (arg a)) (hp : Pre a) (k : ∀ r v H1, res a r → Ex H H1 → Dp K H1 v r → Nw K H H1 v r → tz D (σ.set i (some v)) H1) : tSeq (tAsg (tCall (spN K Pre arg res) [] E tr) (gName i)) tz D σ H :=
  ha H (Ex.refl H) _ fun vs H2 e2 hvs => ⟨a, by rw [List.append_nil]; exact hvs, hp, fun r v H3 hr e3 hv hn => k r v H3 hr (e2.trans e3) hv (Nw.back e2 hn)⟩
theorem da_rep {vs : List V} (h : DpAll K H vs ds) : ∀ k : Nat, DpAll K H (List.replicate k vs).flatten (List.replicate k ds).flatten
  | 0 => .nil
  | k + 1 => by
    rw [List.replicate_succ, List.replicate_succ, List.flatten_cons, List.flatten_cons]
    exact da_app h (da_rep h k)
theorem en_rep {k : Nat} (ha : EN K ta σ H ds) (hb : ED K tb σ H (.int (k : Int))) (hz : ds.length * k ≤ 100000) (hk : k ≤ 100000) : EN K (tOp rRep ta tb) σ H (List.replicate k ds).flatten := fun H1 x Q q =>
  ha H1 x _ fun p vs H2 hp e2 hl hd => iv hb H2 (x.trans e2) _ fun H3 e3 => ⟨p, (k : Int), vs, rfl, rfl, e3 _ _ hl, by omega, by omega, sz_of (by rw [da_length hd, Int.toNat_natCast]; exact hz), fun r hr => by
    rw [Int.toNat_natCast]
    exact q r _ _ (fresh_back (e2.trans e3) hr) ((e2.trans e3).trans (Ex.new hr)) upd_same (da_mono (Ex.new hr) (da_rep (da_mono e3 hd) k))⟩
end
section
variable {P : Program} {w : World} {K : PySem.W.Frag} {mg : Str → Option Value} {base : Heap}
/-! ### another order -/
structure PreOrder (a : Int × Nat) : Prop where
  most : a.2 ≤ 100
def IsOrder (many : Nat) (r : PyData) : Prop := ∃ o : List Nat, r = .list (eI o) ∧ o.Perm (List.range many)
def spOrder (K : PySem.W.Frag) : Sp := spN (α := Int × Nat) K PreOrder (fun a => [.int a.1, .int (a.2 : Int)]) (fun a r => IsOrder a.2 r)
def vI (o : List Nat) : List V := o.map fun n : Nat => V.int (n : Int)
theorem vI_length (o : List Nat) : (vI o).length = o.length := List.length_map _
theorem da_vI {H : Hp} : ∀ o : List Nat, DpAll K H (vI o) (eI o)
  | [] => .nil
  | n :: o => .cons (.int (n : Int)) (da_vI o)
theorem rgV_vI (n : Nat) : rgV 0 (n : Int) = vI (List.range n) := by
  unfold rgV vI
  rw [show ((n : Int) - 0).toNat = n by omega]
  refine List.map_congr_left fun i _ => ?_
  rw [Int.zero_add]
theorem perm_pop : ∀ {l : List Nat} {j : Nat} {x : Nat}, l[j]? = some x → (x :: l.eraseIdx j).Perm l
  | [], j, x, h => by simp at h
  | y :: l, 0, x, h => by
    have e : y = x := by simpa using h
    rw [e]
    exact .refl _
  | y :: l, j + 1, x, h => by
    have h' : l[j]? = some x := by simpa using h
    exact (List.Perm.swap y x (l.eraseIdx j)).trans ((perm_pop h').cons y)
theorem vI_erase : ∀ (l : List Nat) (j : Nat), (vI l).eraseIdx j = vI (l.eraseIdx j)
  | [], _ => rfl
  | _ :: _, 0 => rfl
  | y :: l, j + 1 => by
    show V.int (y : Int) :: (vI l).eraseIdx j = V.int (y : Int) :: vI (l.eraseIdx j)
    rw [vI_erase l j]
theorem noughts : ∀ n : Nat, (List.replicate n [PyData.int 0]).flatten = (List.replicate n (0 : Int)).map PyData.int
  | 0 => rfl
  | n + 1 => by
    rw [List.replicate_succ, List.flatten_cons, noughts n, List.replicate_succ]
    rfl
theorem ok_order {f : Addr} {fd : FuncData} {k : Nat} (F : Fun K "_law_order" "_law_order" sOrder f fd) (ml : mg "list" = none) (mr : mg "range" = none) (mn : mg "len" = none) : FnOk P w K mg base CX0 (k + 1) f fd ["_law_cell", "_law_many"] (spOrder K) := by
  refine F.ok scOrder (fun vs H Q E h => ?_) (fun cdv A outer s H vs Q E hr h => ?_)
  · obtain ⟨a, h, _⟩ := h; exact da_length h
  · obtain ⟨⟨c, many⟩, hd, hp, q⟩ := h
    have hm : many ≤ 100 := hp.most
    cases hd with
    | cons d1 hd =>
    cases hd with
    | cons d2 hd =>
    cases hd
    cases dp_int d1
    cases dp_int d2
    refine ⟨_, pss_cons (ps_set (i := 2) scOrder.nd rfl (.inl rfl) (pe_listRg rfl (by rfl) ml (prg_1 (by rfl) mr (pv 1))))
      (pss_cons (ps_set (i := 3) scOrder.nd rfl (.inl rfl) (pe_lst pa_nil))
      (pss_cons (ps_for PassesOwn.never rfl (pi_range1 (by rfl) mr (pa_cons (pv 1) pa_nil)) (pg_name (i := 4) scOrder.nd rfl (.inl rfl))
        (pss_cons (ps_expr (pe_bm PySem.F.plainAttrs_list PySem.F.slot_list_append PySem.F.type_list_append mt_append (pv 3) (pa_cons (pe_bm PySem.F.plainAttrs_list PySem.F.slot_list_pop PySem.F.type_list_pop mt_popAt (pv 2) (pa_cons (pe_op op_mod (pv 0) (pe_callB call_len_seq (by rfl) mn PySem.boot_len (pa_cons (pv 2) pa_nil))) pa_nil)) pa_nil)))
        (pss_one (ps_set (i := 0) scOrder.nd rfl (.inl rfl) (pe_op op_fdiv (pv 0) pe_int)))))
      (pss_one (ps_ret (pv 3))))), ?_⟩
    refine ⟨.int (many : Int), rfl, (many : Int), rfl, RgOk.of_le (by omega) (by omega) (by omega) (by omega), fun pl nl => ?_⟩
    rw [rgV_vI]
    have e1 : Ex H (upd H pl (.lst (vI (List.range many)))) := Ex.new nl
    refine q_asgN (K := K) (ds := []) (en_lst ea_nil (Nat.zero_le _)) fun po vs0 H0 hpo e0 hf0 hd0 => ?_
    cases hd0
    have hpl0 : H0 pl = some (.lst (vI (List.range many))) := e0 _ _ upd_same
    have npo : H po = none := fresh_back e1 hpo
    have nepo : pl ≠ po := fun z => by rw [← z, upd_same] at hpo; cases hpo
    refine q_forR1 (j := 4) (n := (many : Int)) (Evl.ea_cons (ev_var rfl) Evl.ea_nil) ⟨by omega, by omega⟩ (fun i σ H' => ∃ (c' : Int) (y4 : Option V) (lf dn : List Nat), σ = [some (.int c'), some (.int (many : Int)), some (.ref pl), some (.ref po), y4] ∧ Ex H H' ∧ H' pl = some (.lst (vI lf)) ∧ H' po = some (.lst (vI dn)) ∧ (dn ++ lf).Perm (List.range many) ∧ dn.length = i) ?_ ?_ ?_
    · intro H2 e2
      exact ⟨c, none, List.range many, [], rfl, (e1.trans e0).trans e2, e2 _ _ hpl0, e2 _ _ hf0, .refl _, rfl⟩
    · intro i σ' H' hi pp
      obtain ⟨c', y4, lf, dn, rfl, e, hpl, hpo', hperm, hdn⟩ := pp
      have hlen := hperm.length_eq
      rw [List.length_append, List.length_range, hdn] at hlen
      have hlf : 0 < lf.length := by omega
      have hlf' : (0 : Int) < ((vI lf).length : Int) := by rw [vI_length]; omega
      have hb0 := Int.emod_nonneg c' (show ((vI lf).length : Int) ≠ 0 by omega)
      have hb1 := Int.emod_lt_of_pos c' hlf'
      obtain ⟨j, hj⟩ : ∃ j : Nat, c' % ((vI lf).length : Int) = (j : Int) := ⟨(c' % ((vI lf).length : Int)).toNat, by omega⟩
      have hjl : j < lf.length := by rw [vI_length] at hb1 hj; omega
      have hx : lf[j]? = some lf[j] := List.getElem?_eq_getElem hjl
      have hsi : seqIndex? (c' % ((vI lf).length : Int)) (vI lf).length = some j := by
        rw [hj]
        unfold seqIndex?
        have h2 : ¬ ((j : Int) < 0) := by omega
        have h3 : ((j : Int) < ((vI lf).length : Int)) := by rw [vI_length]; omega
        simp [h2, h3]
      have hvx : (vI lf)[j]? = some (.int ((lf[j] : Nat) : Int)) := by
        unfold vI
        rw [List.getElem?_map, hx]
        rfl
      refine ⟨.ref po, rfl, .inl ⟨rfl, _, .inl (.inl hpo')⟩, .ref pl, rfl, .inl ⟨rfl, _, .inl (.inl hpl)⟩, .int c', rfl, .ref pl, rfl, pl, vI lf, rfl, .inl (.inl (.inl hpl)), c', ((vI lf).length : Int), rfl, rfl, hlf', ?_⟩
      refine ⟨pl, vI lf, _, j, _, rfl, rfl, hpl, by omega, by rw [hj]; omega, hsi, hvx, ?_⟩
      have hpo2 : upd H' pl (.lst ((vI lf).eraseIdx j)) po = some (.lst (vI dn)) := by rw [upd_ne nepo.symm]; exact hpo'
      have hpl2 : ∀ o, upd (upd H' pl (.lst ((vI lf).eraseIdx j))) po o pl = some (.lst (vI (lf.eraseIdx j))) := fun o => by
        rw [upd_ne nepo, upd_same]
        rw [vI_erase]
      refine ⟨po, vI dn, _, rfl, rfl, hpo2, sz_lt (by rw [vI_length]; omega), ?_⟩
      have e2 : Ex H (upd (upd H' pl (.lst ((vI lf).eraseIdx j))) po (.lst (vI dn ++ [.int ((lf[j] : Nat) : Int)]))) := Ex.mut (Ex.mut e nl) npo
      refine s_asgD (K := K) (ed_I (C := CDiv) (g := fun i j => i / j) (ed_var (d := .int c') rfl (.int c')) ed_int ⟨by decide, by decide⟩) fun v5 H3 e3 hv5 => ?_
      cases dp_int hv5
      refine ⟨c' / 5, _, lf.eraseIdx j, dn ++ [lf[j]], rfl, e2.trans e3, e3 _ _ (hpl2 _), e3 _ _ ?_, ?_, by rw [List.length_append, hdn]; rfl⟩
      · rw [upd_same]
        unfold vI
        rw [List.map_append]
        rfl
      · rw [List.append_assoc]
        exact (List.Perm.append_left dn (perm_pop hx)).trans hperm
    · intro σ' H' pp
      obtain ⟨c', y4, lf, dn, rfl, e, hpl, hpo', hperm, hdn⟩ := pp
      rw [Int.toNat_natCast] at hdn
      have hlen := hperm.length_eq
      rw [List.length_append, List.length_range, hdn] at hlen
      have hlf : lf = [] := List.eq_nil_of_length_eq_zero (by omega)
      rw [hlf, List.append_nil] at hperm
      refine s_ret (ev_var rfl) fun H2 e2 => ?_
      exact q (.list (eI dn)) _ _ ⟨dn, rfl, hperm⟩ (e.trans e2) (.lst (.inl (.inl (e2 _ _ hpo'))) (da_vI dn)) (nw_list npo (e2 _ _ hpo') (da_vI dn))
/-! ### more moves -/
structure PreMore (a : List Tm.Mv × Nat × Int) : Prop where
  most : a.2.1 ≤ 100
  one : 1 ≤ a.1.length
  few : a.1.length ≤ 100
def IsMore (ms : List Tm.Mv) (many : Nat) (r : PyData) : Prop := ∃ extra : List Tm.Mv, r = eMs (ms ++ extra) ∧ Tm.Extra many ms extra ∧ extra.length ≤ 4
def spMore (K : PySem.W.Frag) : Sp := spN (α := List Tm.Mv × Nat × Int) K PreMore (fun a => [eMs a.1, .int (a.2.1 : Int), .int a.2.2]) (fun a r => IsMore a.1 a.2.1 r)
theorem ok_more {f : Addr} {fd : FuncData} {k : Nat} (F : Fun K "_law_more_moves" "_law_more_moves" sMore f fd) (ml : mg "list" = none) (mr : mg "range" = none) (mn : mg "len" = none) (mt : mg "tuple" = none) : FnOk P w K mg base CX0 (k + 1) f fd ["_law_moves_here", "_law_many", "_law_cell"] (spMore K) := by
  refine F.ok scMore (fun vs H Q E h => ?_) (fun cdv A outer s H vs Q E hr h => ?_)
  · obtain ⟨a, h, _⟩ := h; exact da_length h
  · obtain ⟨⟨ms, many, c⟩, hd, hp, q⟩ := h
    have hm : many ≤ 100 := hp.most
    have h1m : 1 ≤ ms.length := hp.one
    have hfew : ms.length ≤ 100 := hp.few
    cases hd with
    | cons d1 hd =>
    cases hd with
    | cons d2 hd =>
    cases hd with
    | cons d3 hd =>
    cases hd
    cases dp_int d2
    cases dp_int d3
    rename_i v1
    have d1 : Dp K H v1 (.tuple (ms.map eM)) := d1
    refine ⟨_, pss_cons (ps_set (i := 3) scMore.nd rfl (.inl rfl) (pe_callTy call_list_of (by rfl) ml (by decide +kernel) (pa_cons (pv 0) pa_nil)))
      (pss_cons (ps_set (i := 4) scMore.nd rfl (.inl rfl) (pe_callTy call_tuple_of (by rfl) mt (by decide +kernel) (pa_cons (pe_op op_rep (pe_lst (pa_cons pe_int pa_nil)) (pv 1)) pa_nil)))
      (pss_cons (ps_for PassesOwn.never rfl (pi_range1 (by rfl) mr (pa_cons (pe_op op_add pe_int (pe_op op_mod (pv 2) pe_int)) pa_nil)) (pg_name (i := 5) scMore.nd rfl (.inl rfl))
        (pss_one (ps_if (pt_cmpR op_eq (pe_op op_mod (pe_op op_fdiv (pe_op op_fdiv (pv 2) pe_int) (pe_op op_add (pv 5) pe_int)) pe_int) pe_int (nomark _))
          (pss_one (ps_expr (pe_bm PySem.F.plainAttrs_list PySem.F.slot_list_append PySem.F.type_list_append mt_append (pv 3) (pa_cons (pe_tup (pa_cons (pv 4) (pa_cons (pv 4) pa_nil))) pa_nil))))
          (pss_one (ps_expr (pe_bm PySem.F.plainAttrs_list PySem.F.slot_list_append PySem.F.type_list_append mt_append (pv 3) (pa_cons (pe_ix ix_tup (pv 0) (pe_op op_mod (pe_op op_fdiv (pv 2) pe_int) (pe_callB call_len_seq (by rfl) mn PySem.boot_len (pa_cons (pv 0) pa_nil))) (fun _ _ => rfl)) pa_nil)))))))
      (pss_one (ps_ret (pe_callTy call_tuple_of (by rfl) mt (by decide +kernel) (pa_cons (pv 3) pa_nil)))))), ?_⟩
    have ev := fun (i : Nat) (n : Int) (σ : L2.St) (H : Hp) (h : σ[i]? = some (some (.int n))) => ed_var (K := K) (H := H) (d := .int n) h (.int n)
    refine q_asgN (en_listT (K := K) (te := tVar 0) (ed_var rfl d1)) fun p vs0 H0 hp0 e0 hf0 hd0 => ?_
    refine q_asgD (K := K) (ed_tuple (EN.ed (en_rep (en_lst (ea_cons ed_int ea_nil) (by show 1 ≤ 100000; omega)) (ev 1 (many : Int) _ _ rfl) (by show 1 * many ≤ 100000; omega) (by omega)))) fun v4 H1 e1 hv4 => ?_
    rw [noughts] at hv4
    have hv4 : Dp K H1 v4 (eS (List.replicate many 0)) := hv4
    have hc0 := Int.emod_nonneg c (show (4 : Int) ≠ 0 by decide)
    have hc1 := Int.emod_lt_of_pos c (show (0 : Int) < 4 by decide)
    have hrg : ED K (tOp (rI0 fun i j => .int (i + j)) (tC (.int 1)) (tOp (rI (fun _ j => 0 < j) fun i j => .int (i % j)) (tVar 2) (tC (.int 4)))) [some v1, some (.int (many : Int)), some (.int c), some (.ref p), some v4, none] H1 (.int (1 + c % 4)) :=
      ed_I0 (g := fun i j => i + j) ed_int (ed_I (C := fun _ j => 0 < j) (g := fun i j => i % j) (ev 2 c _ _ rfl) ed_int (by decide))
    refine q_forR1 (j := 5) (n := 1 + c % 4) (Evl.ea_cons (iv hrg) Evl.ea_nil) ⟨by omega, by omega⟩ (fun i σ H' => ∃ (y5 : Option V) (ws : List V) (ex : List Tm.Mv), σ = [some v1, some (.int (many : Int)), some (.int c), some (.ref p), some v4, y5] ∧ Ex H H' ∧ Dp K H' v4 (eS (List.replicate many 0)) ∧ H' p = some (.lst ws) ∧ DpAll K H' ws ((ms ++ ex).map eM) ∧ Tm.Extra many ms ex ∧ ex.length = i) ?_ ?_ ?_
    · intro H2 e2
      exact ⟨none, vs0, [], rfl, (e0.trans e1).trans e2, dp_mono e2 hv4, e2 _ _ (e1 _ _ hf0), by rw [List.append_nil]; exact da_mono (e1.trans e2) hd0, (fun m hm => absurd hm (by simp)), rfl⟩
    · intro i σ' H' hi pp
      obtain ⟨y5, ws, ex, rfl, e, hz4, hpl, hda, hex, hlen⟩ := pp
      have hws : ws.length < 100000 := by
        have := da_length hda
        rw [List.length_map, List.length_append] at this
        omega
      have fin : ∀ (m : Tm.Mv) (v6 : V) (H2 H3 : Hp), Ex H' H2 → Ex H2 H3 → (m ∈ ms ∨ m = (List.replicate many 0, List.replicate many 0)) → Dp K H3 v6 (eM m) → ∃ (y5 : Option V) (ws' : List V) (ex : List Tm.Mv), [some v1, some (.int (many : Int)), some (.int c), some (.ref p), some v4, some (V.int (i : Int))] = [some v1, some (.int (many : Int)), some (.int c), some (.ref p), some v4, y5] ∧ Ex H (upd H3 p (.lst (ws ++ [v6]))) ∧ Dp K (upd H3 p (.lst (ws ++ [v6]))) v4 (eS (List.replicate many 0)) ∧ upd H3 p (.lst (ws ++ [v6])) p = some (.lst ws') ∧ DpAll K (upd H3 p (.lst (ws ++ [v6]))) ws' ((ms ++ ex).map eM) ∧ Tm.Extra many ms ex ∧ ex.length = i + 1 := fun m v6 H2 H3 e2 e3 hm hv6 => by
        have hpl3 : H3 p = some (.lst ws) := e3 _ _ (e2 _ _ hpl)
        refine ⟨_, ws ++ [v6], ex ++ [m], rfl, Ex.mut ((e.trans e2).trans e3) hp0, dp_upd hpl3 (nol_S _) (dp_mono (e2.trans e3) hz4), upd_same, ?_, fun m' hm' => ?_, by rw [List.length_append, hlen]; rfl⟩
        · rw [← List.append_assoc, List.map_append]
          exact da_upd hpl3 (nolAll_append (nolAll_map nol_M _) (by rw [List.map_singleton, nolAll, nol_M]; rfl)) (da_snoc (da_mono (e2.trans e3) hda) hv6)
        · rcases List.mem_append.mp hm' with h | h
          · exact hex m' h
          · have em : m' = m := by simpa using h
            rw [em]; exact hm
      have htst : ED K _ [some v1, some (.int (many : Int)), some (.int c), some (.ref p), some v4, some (V.int (i : Int))] H' _ := ed_eqI (K := K) (ed_I (C := fun _ j => 0 < j) (g := fun i j => i % j) (ed_I (C := CDiv) (g := fun i j => i / j) (ed_I (C := CDiv) (g := fun i j => i / j) (ev 2 c _ _ rfl) (ed_int (i := 4)) ⟨by decide, by decide⟩) (ed_I0 (g := fun i j => i + j) (ev 5 (i : Int) _ _ rfl) (ed_int (i := 1))) ⟨by omega, by omega⟩) (ed_int (i := 2)) (by decide)) (ed_int (i := 0))
      refine s_if (et_T htst) (fun _ H2 e2 => ?_) (fun _ H2 e2 => ?_)
      · refine s_appD (K := K) (d := eM (List.replicate many 0, List.replicate many 0)) (e2 _ _ hpl) rfl (ed_tup (ea_cons (ed_var rfl (dp_mono e2 hz4)) (ea_cons (ed_var rfl (dp_mono e2 hz4)) ea_nil)) (by show 2 ≤ 100000; omega)) hws fun v6 H3 e3 hv6 => ?_
        exact fin _ v6 H2 H3 e2 e3 (.inr rfl) hv6
      · have hl0 : (0 : Int) < (ms.length : Int) := by omega
        have hb0 := Int.emod_nonneg (c / 8) (show (ms.length : Int) ≠ 0 by omega)
        have hb1 := Int.emod_lt_of_pos (c / 8) hl0
        obtain ⟨j, hj⟩ : ∃ j : Nat, c / 8 % (ms.length : Int) = (j : Int) := ⟨(c / 8 % (ms.length : Int)).toNat, by omega⟩
        have hjl : j < ms.length := by omega
        have hlenT := ed_lenT (K := K) (σ := [some v1, some (.int (many : Int)), some (.int c), some (.ref p), some v4, some (V.int (i : Int))]) (H := H2) (te := tVar 0) (ed_var rfl (dp_mono (e.trans e2) d1))
        rw [List.length_map] at hlenT
        have hix := ed_I (K := K) (C := fun _ j => 0 < j) (g := fun i j => i % j) (ed_I (C := CDiv) (g := fun i j => i / j) (ev 2 c _ _ rfl) (ed_int (i := 8)) ⟨by decide, by decide⟩) hlenT hl0
        have hix2 : ED K _ [some v1, some (.int (many : Int)), some (.int c), some (.ref p), some v4, some (V.int (i : Int))] H2 (.int (j : Int)) := ed_is hix (by show PyData.int (c / 8 % (ms.length : Int)) = _; rw [hj])
        refine s_appD (K := K) (d := eM ms[j]) (e2 _ _ hpl) rfl (ed_ixT (ed_var rfl (dp_mono (e.trans e2) d1)) hix2 (atI_nat (by rw [List.getElem?_map, List.getElem?_eq_getElem hjl]; rfl))) hws fun v6 H3 e3 hv6 => ?_
        exact fin _ v6 H2 H3 e2 e3 (.inl (List.getElem_mem hjl)) hv6
    · intro σ' H' pp
      obtain ⟨y5, ws, ex, rfl, e, hz4, hpl, hda, hex, hlen⟩ := pp
      refine s_retD (K := K) (ed_tuple (ed_var rfl (.lst (.inl (.inl hpl)) hda))) fun v H2 e2 hv => ?_
      exact q (eMs (ms ++ ex)) v H2 ⟨ex, rfl, hex, by omega⟩ (e.trans e2) hv (nw_of fun ds z => by cases z)
end
end TK
namespace TK
open PySem PySem.Spec PyProof.Rows L2 Evl
section
variable {P : Program} {w : World} {K : PySem.W.Frag} {mg : Str → Option Value} {base : Heap}
/-! ### the moves drawn -/
structure PreMoves (a : List Int × Nat × Int) : Prop where
  one : 1 ≤ a.2.1
  most : a.2.1 ≤ 4
structure GoodMs (many : Nat) (ms : List Tm.Mv) : Prop where
  lm : Tm.LenM many ms
  pm : Tm.PosM ms
def IsMoves (many : Nat) (r : PyData) : Prop := ∃ ms : List Tm.Mv, r = eMs ms ∧ GoodMs many ms ∧ 1 ≤ ms.length ∧ ms.length ≤ 4
def spMoves (K : PySem.W.Frag) : Sp := spN (α := List Int × Nat × Int) K PreMoves (fun a => [eL a.1, .int (a.2.1 : Int), .int a.2.2]) (fun a r => IsMoves a.2.1 r)
theorem good_snoc {many : Nat} {ms : List Tm.Mv} {m : Tm.Mv} (h : GoodMs many ms) (h1 : m.1.length = many ∧ m.2.length = many) (h2 : (∀ i ∈ m.1, 0 ≤ i) ∧ ∀ i ∈ m.2, 0 ≤ i) : GoodMs many (ms ++ [m]) :=
  ⟨fun x hx => by
    rcases List.mem_append.mp hx with h' | h'
    · exact h.lm x h'
    · have e : x = m := by simpa using h'
      rw [e]; exact h1, fun x hx => by
    rcases List.mem_append.mp hx with h' | h'
    · exact h.pm x h'
    · have e : x = m := by simpa using h'
      rw [e]; exact h2⟩
/-- a comprehension of counts over a part of a stream -/
theorem en_counts {σ : L2.St} {H : Hp} {tl : TE} {E : XK} {xs : List Int} {kind : Int} (js : List Nat) (n i : Nat) (h : ED K tl σ H (.list (xs.map PyData.int))) (hn : xs.length ≤ 40000)
    (hw : ∀ x, wipe ((wipe σ js).set n (some x)) js = wipe σ js) (hx : ∀ x, ((wipe σ js).set n (some x))[n]? = some (some x)) (hk : ∀ x, ((wipe σ js).set n (some x))[i]? = some (some (.int kind))) :
    EN K (tLc (iList K tl) (gName n) tYes (tCall (spCount K) [] E (tCons (tVar n) (tCons (tVar i) tNil))) js) σ H ((xs.map fun x => cnt x kind).map PyData.int) := by
  have en := en_lcL (K := K) (σ := σ) (H := H) (tl := tl) (j := n) (js := js) (tt := tYes) (te := tCall (spCount K) [] E (tCons (tVar n) (tCons (tVar i) tNil))) xs PyData.int (fun _ => true) (fun x => .int (cnt x kind)) h hn (fun _ => nol_int _) hw
    (fun x _ y H1 e1 hy => ⟨et_yes, fun _ => ed_call (K := K) (x, kind) (ea_cons (ed_var (hx y) hy) (ea_cons (ed_var (hk y) (.int kind)) ea_nil)) trivial⟩)
  rw [filt] at en
  rw [List.map_map]
  exact en
theorem counts_pos {xs : List Int} {kind : Int} : ∀ i ∈ xs.map fun x => cnt x kind, 0 ≤ i := fun i hi => by
  obtain ⟨x, _, e⟩ := List.mem_map.mp hi
  rw [← e]
  exact cnt_pos x kind
theorem ok_moves {f fC fS fN : Addr} {fd fdC fdS fdN : FuncData} {k : Nat} (F : Fun K "_law_moves" "_law_moves" sMoves f fd) (aC : At K mg "_law_cell_at" sCell fC fdC ["_law_script", "_law_k"]) (GC : FnOk P w K mg base CX0 (k + 1) fC fdC ["_law_script", "_law_k"] (spCell K))
    (aS : At K mg "_law_stream" sStream fS fdS ["_law_cell", "_law_salt", "_law_many"]) (GS : FnOk P w K mg base CX0 (k + 1) fS fdS ["_law_cell", "_law_salt", "_law_many"] (spStream K))
    (aN : At K mg "_law_count" sCount fN fdN ["_law_x", "_law_kind"]) (GN : FnOk P w K mg base CX0 (k + 1) fN fdN ["_law_x", "_law_kind"] (spCount K))
    (mr : mg "range" = none) (mm : mg "min" = none) (mt : mg "tuple" = none) : FnOk P w K mg base CX0 (k + 1 + 1) f fd ["_law_script", "_law_many", "_law_kind"] (spMoves K) := by
  refine F.ok scMoves (fun vs H Q E h => ?_) (fun cdv A outer s H vs Q E hr h => ?_)
  · obtain ⟨a, h, _⟩ := h; exact da_length h
  · obtain ⟨⟨ns, many, kind⟩, hd, hp, q⟩ := h
    have h1 : 1 ≤ many := hp.one
    have h4 : many ≤ 4 := hp.most
    cases hd with
    | cons d1 hd =>
    cases hd with
    | cons d2 hd =>
    cases hd with
    | cons d3 hd =>
    cases hd
    cases dp_int d2
    cases dp_int d3
    rename_i v1
    have d1 : Dp K H v1 (eL ns) := d1
    refine ⟨_, pss_cons (ps_set (i := 3) scMoves.nd rfl (.inl rfl) (pe_lst pa_nil))
      (pss_cons (ps_for PassesOwn.never rfl (pi_range1 (by rfl) mr (pa_cons (pe_op op_add pe_int (pe_op op_mod (pe_call GC hr (by rfl) aC.g aC.F.kp aC.b .nil pass0 (pa_cons (pv 0) (pa_cons pe_int pa_nil))) pe_int)) pa_nil)) (pg_name (i := 4) scMoves.nd rfl (.inl rfl))
        (pss_cons (ps_set (i := 5) scMoves.nd rfl (.inl rfl) (pe_call GS hr (by rfl) aS.g aS.F.kp aS.b .nil pass0 (pa_cons (pe_call GC hr (by rfl) aC.g aC.F.kp aC.b .nil pass0 (pa_cons (pv 0) (pa_cons (pe_op op_add pe_int (pv 4)) pa_nil))) (pa_cons (pe_op op_add pe_int (pv 4)) (pa_cons pe_int pa_nil)))))
        (pss_cons (ps_setLc (i := 6) (own := [("_law_x", 9)]) (g := gName 9) (by rfl) scMoves.nd rfl rfl (sw_true rfl rfl rfl (by decide +kernel)) (pi_list (pe_slice sl_list (pv 5) po_none (po_some (pv 1))))
            (blkOk_by (N := ["_law_script", "_law_many", "_law_kind", "_law_moves_here", "_law_k", "_law_xs", "_law_take", "_law_put", "_law_at", "_law_x"]) (sc := defScope sMoves) (by decide +kernel))
            (fun _ _ _ _ _ => pg_name (i := 9) scMoves.nd rfl (.inl rfl)) (fun _ _ _ _ _ => pts_nil) (fun _ _ _ _ _ => pe_call GN hr (by rfl) aN.g aN.F.kp aN.b .nil pass0 (pa_cons (pv 9) (pa_cons (pv 2) pa_nil))))
        (pss_cons (ps_setLc (i := 7) (own := [("_law_x", 9)]) (g := gName 9) (by rfl) scMoves.nd rfl rfl (sw_true rfl rfl rfl (by decide +kernel)) (pi_list (pe_slice sl_list (pv 5) (po_some pe_int) (po_some (pe_op op_add pe_int (pv 1)))))
            (blkOk_by (N := ["_law_script", "_law_many", "_law_kind", "_law_moves_here", "_law_k", "_law_xs", "_law_take", "_law_put", "_law_at", "_law_x"]) (sc := defScope sMoves) (by decide +kernel))
            (fun _ _ _ _ _ => pg_name (i := 9) scMoves.nd rfl (.inl rfl)) (fun _ _ _ _ _ => pts_nil) (fun _ _ _ _ _ => pe_call GN hr (by rfl) aN.g aN.F.kp aN.b .nil pass0 (pa_cons (pv 9) (pa_cons (pv 2) pa_nil))))
        (pss_cons (ps_set (i := 8) scMoves.nd rfl (.inl rfl) (pe_op op_mod (pe_call GC hr (by rfl) aC.g aC.F.kp aC.b .nil pass0 (pa_cons (pv 0) (pa_cons pe_int pa_nil))) (pv 1)))
        (pss_cut (ps_if (pt_cmpR op_eq (pe_op op_mod (pe_op op_fdiv (pe_call GC hr (by rfl) aC.g aC.F.kp aC.b .nil pass0 (pa_cons (pv 0) (pa_cons pe_int pa_nil))) pe_int) pe_int) pe_int (nomark _))
            (pss_one (ps_asg (pe_callB (call_min2 rfl) (by rfl) mm (by decide +kernel) (pa_cons (pe_ix ix_list (pv 7) (pv 8) (fun _ _ => rfl)) (pa_cons (pe_ix ix_list (pv 6) (pv 8) (fun _ _ => rfl)) pa_nil))) (pg_sub (pv 7) (pv 8) set_list))) pss_nil)
        (pss_one (ps_expr (pe_bm PySem.F.plainAttrs_list PySem.F.slot_list_append PySem.F.type_list_append mt_append (pv 3) (pa_cons (pe_tup (pa_cons (pe_callTy call_tuple_of (by rfl) mt (by decide +kernel) (pa_cons (pv 6) pa_nil)) (pa_cons (pe_callTy call_tuple_of (by rfl) mt (by decide +kernel) (pa_cons (pv 7) pa_nil)) pa_nil))) pa_nil))))))))))
      (pss_one (ps_ret (pe_callTy call_tuple_of (by rfl) mt (by decide +kernel) (pa_cons (pv 3) pa_nil))))), ?_⟩
    have ev := fun (i : Nat) (n : Int) (σ : L2.St) (H : Hp) (h : σ[i]? = some (some (.int n))) => ed_var (K := K) (H := H) (d := .int n) h (.int n)
    -- a cell
    have ecell : ∀ (σ : L2.St) (H1 : Hp) (te : TE) (j : Nat), Ex H H1 → σ[0]? = some (some v1) → ED K te σ H1 (.int (j : Int)) → ED K (tCall (spCell K) [] E0 (tCons (tVar 0) (tCons te tNil))) σ H1 (.int (ns.getD j 0)) := fun σ H1 te j e hσ ht =>
      ed_call (K := K) (ns, j) (ea_cons (ed_var hσ (dp_mono e d1)) (ea_cons ht ea_nil)) trivial
    refine q_asgN (K := K) (ds := []) (en_lst ea_nil (Nat.zero_le _)) fun p vs0 H0 hp0 e0 hf0 hd0 => ?_
    cases hd0
    have hc0 := Int.emod_nonneg (ns.getD 1 0) (show (4 : Int) ≠ 0 by decide)
    have hc1 := Int.emod_lt_of_pos (ns.getD 1 0) (show (0 : Int) < 4 by decide)
    have hrg : ED K (tOp (rI0 fun i j => .int (i + j)) (tC (.int 1)) (tOp (rI (fun _ j => 0 < j) fun i j => .int (i % j)) (tCall (spCell K) [] E0 (tCons (tVar 0) (tCons (tC (.int 1)) tNil))) (tC (.int 4)))) [some v1, some (.int (many : Int)), some (.int kind), some (.ref p), none, none, none, none, none, none] H0 (.int (1 + ns.getD 1 0 % 4)) :=
      ed_I0 (g := fun i j => i + j) ed_int (ed_I (C := fun _ j => 0 < j) (g := fun i j => i % j) (ecell _ H0 _ 1 e0 rfl ed_int) ed_int (by decide))
    refine q_forR1 (j := 4) (n := 1 + ns.getD 1 0 % 4) (Evl.ea_cons (iv hrg) Evl.ea_nil) ⟨by omega, by omega⟩ (fun i σ H' => ∃ (y4 y5 y6 y7 y8 y9 : Option V) (ws : List V) (ms : List Tm.Mv), σ = [some v1, some (.int (many : Int)), some (.int kind), some (.ref p), y4, y5, y6, y7, y8, y9] ∧ Ex H H' ∧ H' p = some (.lst ws) ∧ DpAll K H' ws (ms.map eM) ∧ GoodMs many ms ∧ ms.length = i) ?_ ?_ ?_
    · intro H2 e2
      exact ⟨none, none, none, none, none, none, [], [], rfl, e0.trans e2, e2 _ _ hf0, .nil, ⟨fun m hm => absurd hm (by simp), fun m hm => absurd hm (by simp)⟩, rfl⟩
    · intro i σ' H' hi pp
      obtain ⟨y4, y5, y6, y7, y8, y9, ws, ms, rfl, e, hpl, hda, hgood, hlen⟩ := pp
      have hi4 : i < 4 := by omega
      -- the stream
      have e5 : ED K (tOp (rI0 fun i j => .int (i + j)) (tC (.int 5)) (tVar 4)) [some v1, some (.int (many : Int)), some (.int kind), some (.ref p), some (.int (i : Int)), y5, y6, y7, y8, y9] H' (.int ((5 + i : Nat) : Int)) := ed_is (ed_I0 (g := fun i j => i + j) (ed_int (i := 5)) (ev 4 (i : Int) _ _ rfl)) (by congr 1)
      have e2i : ED K (tOp (rI0 fun i j => .int (i + j)) (tC (.int 2)) (tVar 4)) [some v1, some (.int (many : Int)), some (.int kind), some (.ref p), some (.int (i : Int)), y5, y6, y7, y8, y9] H' (.int ((2 + i : Nat) : Int)) := ed_is (ed_I0 (g := fun i j => i + j) (ed_int (i := 2)) (ev 4 (i : Int) _ _ rfl)) (by congr 1)
      refine q_asgS (K := K) (ns.getD (5 + i) 0, 2 + i, 8) (ea_cons (ecell _ H' _ (5 + i) e rfl e5) (ea_cons e2i (ea_cons (ed_int (i := 8)) ea_nil))) ⟨by show 2 + i ≤ 100; omega, by show 8 ≤ 100; omega⟩ fun r v5 H1 hres e1 hv5 _ => ?_
      obtain ⟨xs, rfl, hxs⟩ := hres
      have hxs : xs.length = 8 := hxs
      have hv5 : Dp K H1 v5 (.list (xs.map PyData.int)) := hv5
      -- take
      have sl1 : ED K (tSl (rSlL K) (tVar 5) tNoPart (tPart (tVar 1))) [some v1, some (.int (many : Int)), some (.int kind), some (.ref p), some (.int (i : Int)), some v5, y6, y7, y8, y9] H1 (.list ((xs.take many).map PyData.int)) := by
        have := (en_slice (K := K) (σ := [some v1, some (.int (many : Int)), some (.int kind), some (.ref p), some (.int (i : Int)), some v5, y6, y7, y8, y9]) (te := tVar 5) (ed_var rfl hv5) eo_none (eo_some (iv (ev 1 (many : Int) _ _ rfl)))).ed
        rw [cut_take, ← List.map_take] at this
        exact this
      refine q_asgN (en_counts (K := K) (kind := kind) [9] 9 2 sl1 (by rw [List.length_take]; omega) (fun _ => rfl) (fun _ => rfl) (fun _ => rfl)) fun p6 vs6 H2 hp6 e2 hl6 hd6 => ?_
      -- put
      have sl2 : ED K (tSl (rSlL K) (tVar 5) (tPart (tC (.int 4))) (tPart (tOp (rI0 fun i j => .int (i + j)) (tC (.int 4)) (tVar 1)))) [some v1, some (.int (many : Int)), some (.int kind), some (.ref p), some (.int (i : Int)), some v5, some (.ref p6), y7, y8, y9] H2 (.list (((xs.drop 4).take many).map PyData.int)) := by
        have := (en_slice (K := K) (σ := [some v1, some (.int (many : Int)), some (.int kind), some (.ref p), some (.int (i : Int)), some v5, some (.ref p6), y7, y8, y9]) (te := tVar 5) (ed_var rfl (dp_mono e2 hv5)) (eo_some (ev_c (v := .int ((4 : Nat) : Int)))) (eo_some (iv (ed_is (ed_I0 (K := K) (g := fun i j => i + j) (ed_int (i := 4)) (ev 1 (many : Int) _ _ rfl)) (show PyData.int (4 + (many : Int)) = .int ((4 + many : Nat) : Int) by congr 1))))).ed
        rw [cut_mid _ 4 many (by rw [List.length_map, hxs]; omega), ← List.map_drop, ← List.map_take] at this
        exact this
      refine q_asgN (en_counts (K := K) (kind := kind) [9] 9 2 sl2 (by rw [List.length_take, List.length_drop]; omega) (fun _ => rfl) (fun _ => rfl) (fun _ => rfl)) fun p7 vs7 H3 hp7 e3 hl7 hd7 => ?_
      have hv6 := da_ints hd6
      have hv7 := da_ints hd7
      subst hv6
      subst hv7
      have lt : ((xs.take many).map fun x => cnt x kind).length = many := by rw [List.length_map, List.length_take]; omega
      have lp : (((xs.drop 4).take many).map fun x => cnt x kind).length = many := by rw [List.length_map, List.length_take, List.length_drop]; omega
      have pt := counts_pos (xs := xs.take many) (kind := kind)
      have pp := counts_pos (xs := (xs.drop 4).take many) (kind := kind)
      revert lt lp pt pp hl6 hl7
      generalize (xs.take many).map (fun x => cnt x kind) = tk
      generalize ((xs.drop 4).take many).map (fun x => cnt x kind) = pu
      intro hl6 hl7 lt lp pt pp
      have e23 := e2.trans e3
      have eH3 := (e.trans e1).trans e23
      -- at
      have hm0 : (0 : Int) < (many : Int) := by omega
      have ha0 := Int.emod_nonneg (ns.getD 2 0) (show (many : Int) ≠ 0 by omega)
      have ha1 := Int.emod_lt_of_pos (ns.getD 2 0) hm0
      obtain ⟨j, hj⟩ : ∃ j : Nat, ns.getD 2 0 % (many : Int) = (j : Int) := ⟨(ns.getD 2 0 % (many : Int)).toNat, by omega⟩
      have hjm : j < many := by omega
      have eat := ed_I (K := K) (C := fun _ j => 0 < j) (g := fun i j => i % j) (ecell [some v1, some (.int (many : Int)), some (.int kind), some (.ref p), some (.int (i : Int)), some v5, some (.ref p6), some (.ref p7), y8, y9] H3 _ 2 eH3 rfl (ed_int (i := 2))) (ev 1 (many : Int) _ _ rfl) hm0
      refine q_asgD (ed_is eat (by show PyData.int (ns.getD 2 0 % (many : Int)) = .int (j : Int); rw [hj])) fun v8 H4 e4 hv8 => ?_
      cases dp_int hv8
      have hl6' : H4 p6 = some (.lst (tk.map V.int)) := e4 _ _ (e3 _ _ hl6)
      have hl7' : H4 p7 = some (.lst (pu.map V.int)) := e4 _ _ hl7
      have ne67 : p6 ≠ p7 := ne_of_none hl6 hp7
      refine q_cut (M := fun σ'' H'' => ∃ pn : List Int, σ'' = [some v1, some (.int (many : Int)), some (.int kind), some (.ref p), some (.int (i : Int)), some v5, some (.ref p6), some (.ref p7), some (.int (j : Int)), y9] ∧ Ex H2 H'' ∧ H'' p7 = some (.lst (pn.map V.int)) ∧ pn.length = many ∧ ∀ x ∈ pn, 0 ≤ x) ?_ ?_
      · have htst : ED K _ [some v1, some (.int (many : Int)), some (.int kind), some (.ref p), some (.int (i : Int)), some v5, some (.ref p6), some (.ref p7), some (.int (j : Int)), y9] H4 _ := ed_eqI (K := K) (ed_I (C := fun _ j => 0 < j) (g := fun i j => i % j) (ed_I (C := CDiv) (g := fun i j => i / j) (ecell _ H4 _ 0 (eH3.trans e4) rfl (ed_int (i := 0))) (ed_int (i := 8)) ⟨by decide, by decide⟩) (ed_int (i := 2)) (by decide)) (ed_int (i := 1))
        refine s_if (et_T htst) (fun _ H5 e5 => ?_) (fun _ H5 e5 => ?_)
        · have gp : (pu.map PyData.int)[j]? = some (.int pu[j]) := by rw [List.getElem?_map, List.getElem?_eq_getElem (by omega)]; rfl
          have gt : (tk.map PyData.int)[j]? = some (.int tk[j]) := by rw [List.getElem?_map, List.getElem?_eq_getElem (by omega)]; rfl
          have dpu : Dp K H5 (.ref p7) (.list (pu.map PyData.int)) := .lst (.inl (.inl (e5 _ _ hl7'))) (da_of_ints _)
          have dtk : Dp K H5 (.ref p6) (.list (tk.map PyData.int)) := .lst (.inl (.inl (e5 _ _ hl6'))) (da_of_ints _)
          have emin : ED K (tCB rMin2 (tCons (tOp (rIxL K) (tVar 7) (tVar 8)) (tCons (tOp (rIxL K) (tVar 6) (tVar 8)) tNil))) [some v1, some (.int (many : Int)), some (.int kind), some (.ref p), some (.int (i : Int)), some v5, some (.ref p6), some (.ref p7), some (.int (j : Int)), y9] H5 (.int (if tk[j] < pu[j] then tk[j] else pu[j])) :=
            ed_min (ed_ixL (ed_var rfl dpu) (ev 8 (j : Int) _ _ rfl) (atI_nat gp)) (ed_ixL (ed_var rfl dtk) (ev 8 (j : Int) _ _ rfl) (atI_nat gt))
          refine s_setL (j := j) (e5 _ _ hl7') (iv emin) (ev_var rfl) (ev_var rfl) (by rw [List.length_map]; omega) fun H6 e6 => ?_
          refine ⟨pu.set j (if tk[j] < pu[j] then tk[j] else pu[j]), rfl, Ex.mut (((e3.trans e4).trans e5).trans e6) hp7, ?_, by rw [List.length_set]; exact lp, fun x hx => ?_⟩
          · rw [upd_same, List.map_set]
          · rcases List.mem_or_eq_of_mem_set hx with h | h
            · exact pp x h
            · rw [h]
              have := pt tk[j] (List.getElem_mem _)
              have := pp pu[j] (List.getElem_mem _)
              split <;> assumption
        · exact ⟨pu, rfl, (e3.trans e4).trans e5, e5 _ _ hl7', lp, pp⟩
      · rintro σ'' H'' ⟨pn, rfl, eM', hl7n, lpn, ppn⟩
        have dpn : Dp K H'' (.ref p7) (.list (pn.map PyData.int)) := .lst (.inl (.inl hl7n)) (da_of_ints _)
        have dtk : Dp K H'' (.ref p6) (.list (tk.map PyData.int)) := .lst (.inl (.inl (eM' _ _ hl6))) (da_of_ints _)
        have hws : ws.length < 100000 := by
          have := da_length hda
          rw [List.length_map] at this
          omega
        have e12 := (e1.trans e2).trans eM'
        refine s_appD (K := K) (d := eM (tk, pn)) (e12 _ _ hpl) rfl (ed_tup (ea_cons (ed_tuple (ed_var rfl dtk)) (ea_cons (ed_tuple (ed_var rfl dpn)) ea_nil)) (by show 2 ≤ 100000; omega)) hws fun v6 H6 e6 hv6 => ?_
        have hpl6 : H6 p = some (.lst ws) := e6 _ _ (e12 _ _ hpl)
        refine ⟨_, _, _, _, _, _, ws ++ [v6], ms ++ [(tk, pn)], rfl, Ex.mut ((e.trans e12).trans e6) hp0, upd_same, ?_, good_snoc hgood ⟨lt, lpn⟩ ⟨pt, ppn⟩, by rw [List.length_append, hlen]; rfl⟩
        rw [List.map_append]
        exact da_upd hpl6 (nolAll_append (nolAll_map nol_M _) (by rw [List.map_singleton, nolAll, nol_M]; rfl)) (da_snoc (da_mono (e12.trans e6) hda) hv6)
    · intro σ' H' pp
      obtain ⟨y4, y5, y6, y7, y8, y9, ws, ms, rfl, e, hpl, hda, hgood, hlen⟩ := pp
      refine s_retD (K := K) (ed_tuple (ed_var rfl (.lst (.inl (.inl hpl)) hda))) fun v H2 e2 hv => ?_
      exact q (eMs ms) v H2 ⟨ms, rfl, hgood, by omega, by omega⟩ (e.trans e2) hv (nw_of fun ds z => by cases z)
end
end TK
namespace TK
open PySem PySem.Spec PyProof.Rows L2 Evl
/-! ### scaling and another order keep what covers what -/
theorem scl_length (k : Int) (s : Tm.St) : (scl k s).length = s.length := List.length_map _
theorem covers_scl {k : Int} (hk : 0 < k) : ∀ s o : Tm.St, Tm.covers (scl k s) (scl k o) = Tm.covers s o
  | [], _ => by simp [scl, Tm.covers]
  | _ :: _, [] => by simp [scl, Tm.covers]
  | x :: s, y :: o => by
    show (if x * k < y * k then false else Tm.covers (scl k s) (scl k o)) = (if x < y then false else Tm.covers s o)
    rw [covers_scl hk s o]
    by_cases h : x < y
    · rw [if_pos h, if_pos (Int.mul_lt_mul_of_pos_right h hk)]
    · rw [if_neg h, if_neg fun z => h (Int.lt_of_mul_lt_mul_right z (by omega))]
theorem source_scl {k : Int} (hk : 0 < k) : ∀ l g s : List Int, Tm.source (scl k l) (scl k g) (scl k s) = scl k (Tm.source l g s)
  | [], _, _ => by simp [scl, Tm.source]
  | _ :: _, [], _ => by simp [scl, Tm.source]
  | _ :: _, _ :: _, [] => by simp [scl, Tm.source]
  | x :: l, y :: g, z :: s => by
    show (x * k + (if z * k - y * k > 0 then z * k - y * k else 0)) :: Tm.source (scl k l) (scl k g) (scl k s) = (x + (if z - y > 0 then z - y else 0)) * k :: scl k (Tm.source l g s)
    rw [source_scl hk l g s]
    have e : z * k - y * k = (z - y) * k := (Int.sub_mul z y k).symm
    by_cases h : z - y > 0
    · rw [if_pos h, e, if_pos (Int.mul_pos h hk), Int.add_mul]
    · rw [if_neg h, e, if_neg fun q => h (by
        have : 0 * k < (z - y) * k := by rw [Int.zero_mul]; exact q
        exact Int.lt_of_mul_lt_mul_right this (by omega)), Int.add_zero, Int.add_zero]
theorem subs_scl {k : Int} : ∀ l g : List Int, Tm.subs (scl k l) (scl k g) = scl k (Tm.subs l g)
  | [], _ => by simp [scl, Tm.subs]
  | _ :: _, [] => by simp [scl, Tm.subs]
  | x :: l, y :: g => by
    show (y * k - x * k) :: Tm.subs (scl k l) (scl k g) = (y - x) * k :: scl k (Tm.subs l g)
    rw [subs_scl l g, Int.sub_mul]
theorem adds_scl {k : Int} : ∀ l g : List Int, Tm.adds (scl k l) (scl k g) = scl k (Tm.adds l g)
  | [], _ => by simp [scl, Tm.adds]
  | _ :: _, [] => by simp [scl, Tm.adds]
  | x :: l, y :: g => by
    show (x * k + y * k) :: Tm.adds (scl k l) (scl k g) = (x + y) * k :: scl k (Tm.adds l g)
    rw [adds_scl l g, Int.add_mul]
theorem iso_scl {k : Int} (hk : 0 < k) (d : Nat) : Tm.Iso d (scl k) :=
  ⟨fun s h => by rw [scl_length, h], fun s o _ _ => covers_scl hk s o, fun s l g _ _ _ => source_scl hk l g s, fun s l g _ _ _ => by rw [subs_scl, adds_scl]⟩
theorem lex_scl {k : Int} (hk : 0 < k) : ∀ s o : Tm.St, Tm.rowLe (scl k s) (scl k o) = Tm.rowLe s o
  | [], _ => by simp [scl, Tm.rowLe]
  | _ :: _, [] => by simp [scl, Tm.rowLe]
  | x :: s, y :: o => by
    show (if x * k < y * k then true else if y * k < x * k then false else Tm.rowLe (scl k s) (scl k o)) = (if x < y then true else if y < x then false else Tm.rowLe s o)
    rw [lex_scl hk s o]
    have m : ∀ {a b : Int}, a * k < b * k ↔ a < b := fun {a b} => ⟨fun z => Int.lt_of_mul_lt_mul_right z (by omega), fun z => Int.mul_lt_mul_of_pos_right z hk⟩
    by_cases h : x < y
    · rw [if_pos h, if_pos (m.mpr h)]
    · rw [if_neg h, if_neg fun z => h (m.mp z)]
      by_cases h' : y < x
      · rw [if_pos h', if_pos (m.mpr h')]
      · rw [if_neg h', if_neg fun z => h' (m.mp z)]
theorem srt_scl {k : Int} (hk : 0 < k) {b : List Tm.St} (h : Tm.Up b) : Tm.srt (b.map (scl k)) = b.map (scl k) := by
  refine Tm.srt_id ?_
  unfold Tm.Up
  rw [List.pairwise_map]
  exact h.imp fun {x y} q => by rw [lex_scl hk]; exact q
theorem covers_map {f g : Nat → Int} : ∀ o : List Nat, (Tm.covers (o.map f) (o.map g) = true ↔ ∀ i ∈ o, g i ≤ f i)
  | [] => by simp [Tm.covers]
  | i :: o => by
    rw [List.map_cons, List.map_cons, Tm.covers_cons, covers_map o]
    simp
theorem covers_getD : ∀ {d : Nat} {s t : Tm.St}, s.length = d → t.length = d → (Tm.covers s t = true ↔ ∀ i, i < d → t.getD i 0 ≤ s.getD i 0)
  | 0, [], [], _, _ => by simp [Tm.covers]
  | 0, _ :: _, _, h, _ => by simp at h
  | 0, [], _ :: _, _, h => by simp at h
  | d + 1, x :: s, y :: t, h1, h2 => by
    rw [Tm.covers_cons, covers_getD (d := d) (by simpa using h1) (by simpa using h2)]
    constructor
    · rintro ⟨a, b⟩ i hi
      cases i with
      | zero => simpa using a
      | succ i => simpa using b i (by omega)
    · intro q
      exact ⟨by simpa using q 0 (by omega), fun i hi => by simpa using q (i + 1) (by omega)⟩
  | d + 1, [], _, h, _ => by simp at h
  | d + 1, _ :: _, [], _, h => by simp at h
theorem source_map {f g h : Nat → Int} : ∀ o : List Nat, Tm.source (o.map f) (o.map g) (o.map h) = o.map fun i => f i + (if h i - g i > 0 then h i - g i else 0)
  | [] => by simp [Tm.source]
  | i :: o => by simp [Tm.source, source_map o]
theorem source_getD : ∀ {d : Nat} {l g s : List Int} {i : Nat}, l.length = d → g.length = d → s.length = d → i < d → (Tm.source l g s).getD i 0 = l.getD i 0 + (if s.getD i 0 - g.getD i 0 > 0 then s.getD i 0 - g.getD i 0 else 0)
  | d + 1, x :: l, y :: g, z :: s, 0, _, _, _, _ => by simp [Tm.source]
  | d + 1, x :: l, y :: g, z :: s, i + 1, h1, h2, h3, h => by
    have := source_getD (d := d) (l := l) (g := g) (s := s) (i := i) (by simpa using h1) (by simpa using h2) (by simpa using h3) (by omega)
    simpa [Tm.source] using this
  | 0, _, _, _, _, _, _, _, h => by omega
  | d + 1, [], _, _, _, h, _, _, _ => by simp at h
  | d + 1, _ :: _, [], _, _, _, h, _, _ => by simp at h
  | d + 1, _ :: _, _ :: _, [], _, _, _, h, _ => by simp at h
theorem subs_map {f g : Nat → Int} : ∀ o : List Nat, Tm.subs (o.map f) (o.map g) = o.map fun i => g i - f i
  | [] => by simp [Tm.subs]
  | i :: o => by simp [Tm.subs, subs_map o]
theorem adds_map {f g : Nat → Int} : ∀ o : List Nat, Tm.adds (o.map f) (o.map g) = o.map fun i => f i + g i
  | [] => by simp [Tm.adds]
  | i :: o => by simp [Tm.adds, adds_map o]
theorem subs_getD : ∀ {d : Nat} {l g : List Int} {i : Nat}, l.length = d → g.length = d → i < d → (Tm.subs l g).getD i 0 = g.getD i 0 - l.getD i 0
  | d + 1, x :: l, y :: g, 0, _, _, _ => by simp [Tm.subs]
  | d + 1, x :: l, y :: g, i + 1, h1, h2, h => by
    have := subs_getD (d := d) (l := l) (g := g) (i := i) (by simpa using h1) (by simpa using h2) (by omega)
    simpa [Tm.subs] using this
  | 0, _, _, _, _, _, h => by omega
  | d + 1, [], _, _, h, _, _ => by simp at h
  | d + 1, _ :: _, [], _, _, h, _ => by simp at h
theorem adds_getD : ∀ {d : Nat} {l g : List Int} {i : Nat}, l.length = d → g.length = d → i < d → (Tm.adds l g).getD i 0 = l.getD i 0 + g.getD i 0
  | d + 1, x :: l, y :: g, 0, _, _, _ => by simp [Tm.adds]
  | d + 1, x :: l, y :: g, i + 1, h1, h2, h => by
    have := adds_getD (d := d) (l := l) (g := g) (i := i) (by simpa using h1) (by simpa using h2) (by omega)
    simpa [Tm.adds] using this
  | 0, _, _, _, _, _, h => by omega
  | d + 1, [], _, _, h, _, _ => by simp at h
  | d + 1, _ :: _, [], _, _, h, _ => by simp at h
theorem mem_order {o : List Nat} {d : Nat} (h : o.Perm (List.range d)) {i : Nat} : i ∈ o ↔ i < d := h.mem_iff.trans List.mem_range
theorem iso_put {o : List Nat} {d : Nat} (h : o.Perm (List.range d)) : Tm.Iso d (put o) where
  len := fun s _ => by
    unfold put
    rw [List.length_map, h.length_eq, List.length_range]
  cov := fun s t hs ht => by
    rw [Bool.eq_iff_iff]
    unfold put
    rw [covers_map, covers_getD hs ht]
    exact ⟨fun q i hi => q i ((mem_order h).mpr hi), fun q i hi => q i ((mem_order h).mp hi)⟩
  src := fun s l g hs hl hg => by
    unfold put
    rw [source_map]
    exact List.map_congr_left fun i hi => (source_getD hl hg hs ((mem_order h).mp hi)).symm
  aft := fun s l g hs hl hg => by
    unfold put
    rw [subs_map, adds_map]
    refine List.map_congr_left fun i hi => ?_
    have hi := (mem_order h).mp hi
    have e := Tm.subs_length (l := l) (g := g) (by rw [hl, hg])
    rw [adds_getD hs (by rw [e, hl]) hi, subs_getD hl hg hi]
theorem put_pos {o : List Nat} {s : Tm.St} (h : ∀ i ∈ s, 0 ≤ i) : ∀ i ∈ put o s, 0 ≤ i := fun i hi => by
  obtain ⟨j, _, e⟩ := List.mem_map.mp hi
  rw [← e, List.getD_eq_getElem?_getD]
  cases q : s[j]? with
  | none => exact Int.le_refl 0
  | some x => exact h x (List.mem_of_getElem? q)
theorem scl_pos {k : Int} (hk : 0 < k) {s : Tm.St} (h : ∀ i ∈ s, 0 ≤ i) : ∀ i ∈ scl k s, 0 ≤ i := fun i hi => by
  obtain ⟨j, hj, e⟩ := List.mem_map.mp hi
  rw [← e]
  exact Int.mul_nonneg (h j hj) (by omega)
/-! ### the same answers -/
abbrev sSame : Stmt := topS 31
theorem scSame : FnScope ["_law_one", "_law_other", "_law_form", "_law_by", "_law_stand"] ["_law_one", "_law_other", "_law_form", "_law_by"] (defScope sSame) := ⟨rfl, rfl, rfl, by decide +kernel, rfl, by decide +kernel, by decide +kernel⟩
structure SArg where
  w : Str
  a : Tm.Ans
  d : Nat
  z : Sum Int (List Nat)
def SArg.f (x : SArg) : Tm.St → Tm.St := match x.z with
  | .inl k => scl k
  | .inr o => put o
def SArg.form (x : SArg) : Int := match x.z with
  | .inl _ => 0
  | .inr _ => 1
def eBy : Sum Int (List Nat) → PyData
  | .inl k => .int k
  | .inr o => .list (eI o)
structure GoodW (d : Nat) (b : List Tm.St) : Prop where
  len : Tm.Len d b
  pos : Tm.Pos b
  up : Tm.Up b
  few : b.length < 64
def GoodA (d : Nat) (a : Tm.Ans) : Prop := ∀ b, a = .wall b → GoodW d b
structure PreSame (x : SArg) : Prop where
  ok : PyData.strOk x.w = true
  row : decide (x.w = "row") = false
  opn : decide (x.w = "open") = false
  one : 1 ≤ x.d
  most : x.d ≤ 1000
  good : GoodA x.d x.a
  scl : ∀ k, x.z = .inl k → 0 < k ∧ k < 2 ^ 64
  put : ∀ o, x.z = .inr o → o.Perm (List.range x.d)
def wst (f : Tm.St → Tm.St) : Tm.Ans → List Tm.St
  | .wall b => b.map f
  | .row _ => []
  | .opn _ => []
def eA1 (w : Str) : Tm.Ans → Str
  | .row _ => "row"
  | .opn _ => "open"
  | .wall _ => w
def eA2 : Tm.Ans → PyData
  | .row r => .list (eI r)
  | .opn k => .int (k : Int)
  | .wall b => eB b
theorem eA_eq (w : Str) (a : Tm.Ans) : eA w a = .tuple [.str (eA1 w a), eA2 a] := by cases a <;> rfl
theorem eA1_mapW (w : Str) (f : Tm.St → Tm.St) (a : Tm.Ans) : eA1 w (a.mapW f) = eA1 w a := by cases a <;> rfl
theorem fl_A2 (a : Tm.Ans) : Fl 2 (eA2 a) := by
  cases a with
  | row r =>
    refine Fl.mono (k := 1) (fl_list fun d hd => ?_) (by decide)
    obtain ⟨i, _, e⟩ := List.mem_map.mp hd
    subst e
    exact fl_int _
  | opn k => exact (fl_int _).mono (by decide)
  | wall b => exact fl_B b
section
variable {P : Program} {w : World} {K : PySem.W.Frag} {mg : Str → Option Value} {base : Heap}
def spSame (K : PySem.W.Frag) : Sp := spD (α := SArg) K PreSame (fun x => [eA x.w x.a, eA x.w (x.a.mapW x.f), .int x.form, eBy x.z]) (fun _ => .bool true)
theorem ok_same {f fS fP : Addr} {fd fdS fdP : FuncData} {k : Nat} (F : Fun K "_law_same" "_law_same" sSame f fd) (aS : At K mg "_law_scaled" sScaled fS fdS ["_law_stand", "_law_factor"]) (GS : FnOk P w K mg base CX0 (k + 1) fS fdS ["_law_stand", "_law_factor"] (spScaled K))
    (aP : At K mg "_law_put_so" sPutSo fP fdP ["_law_stand", "_law_order_here"]) (GP : FnOk P w K mg base CX0 (k + 1) fP fdP ["_law_stand", "_law_order_here"] (spPutSo K)) (ms : mg "sorted" = none) : FnOk P w K mg base CX0 (k + 1 + 1) f fd ["_law_one", "_law_other", "_law_form", "_law_by"] (spSame K) := by
  refine F.ok scSame (fun vs H Q E h => ?_) (fun cdv A outer s H vs Q E hr h => ?_)
  · obtain ⟨a, h, _⟩ := h; exact da_length h
  · obtain ⟨⟨ww, a, d, z⟩, hd, hp, q⟩ := h
    have h1d : 1 ≤ d := hp.one
    have hmost : d ≤ 1000 := hp.most
    have hgood : GoodA d a := hp.good
    cases hd with
    | cons d1 hd =>
    cases hd with
    | cons d2 hd =>
    cases hd with
    | cons d3 hd =>
    cases hd with
    | cons d4 hd =>
    cases hd
    rename_i v1 v2 v3 v4
    obtain ⟨B, hB⟩ := bound_of (wst (SArg.f ⟨ww, a, d, z⟩) a)
    have qq : ∀ v H', Ex H H' → Dp K H' v (.bool true) → Q v H' := fun v H' e hv => q v H' e hv (nw_of fun ds z => by cases z)
    refine ⟨_, pss_cons (ps_if (pt_cmpR op_ne (pe_ix ix_tup (pv 0) pe_int (fun _ _ => rfl)) (pe_ix ix_tup (pv 1) pe_int (fun _ _ => rfl)) (nomark _)) (pss_one (ps_ret pe_bl)) pss_nil)
      (pss_cons (ps_if (PW.pt (pw_or (pt_cmpR op_eq (pe_ix ix_tup (pv 0) pe_int (fun _ _ => rfl)) pe_str (nomark _)) (pw_or1 (pt_cmpR op_eq (pe_ix ix_tup (pv 0) pe_int (fun _ _ => rfl)) pe_str (nomark _))))) (pss_one (ps_ret (pe_cmpR (op_eqD hr.units) (pe_ix ix_tup (pv 0) pe_int (fun _ _ => rfl)) (pe_ix ix_tup (pv 1) pe_int (fun _ _ => rfl)) (nomark _)))) pss_nil)
      (pss_cons (ps_if (pt_cmpR op_eq (pv 2) pe_int (nomark _)) (pss_one (ps_ret (pe_cmpR (op_eqD hr.units)
          (pe_lc (own := [("_law_stand", 4)]) (g := gName 4) rfl scSame.nd (pi_list (pe_ix ix_tup (pv 0) pe_int (fun _ _ => rfl))) (blkOk_by (N := ["_law_one", "_law_other", "_law_form", "_law_by", "_law_stand"]) (sc := defScope sSame) (by decide +kernel))
            (fun _ _ _ _ _ => pg_name (i := 4) scSame.nd rfl (.inl rfl)) (fun _ _ _ _ _ => pts_nil) (fun _ _ _ _ _ => pe_call GS hr (by rfl) aS.g aS.F.kp aS.b .nil pass0 (pa_cons (pv 4) (pa_cons (pv 3) pa_nil))))
          (pe_ix ix_tup (pv 1) pe_int (fun _ _ => rfl)) (nomark _)))) pss_nil)
      (pss_one (ps_ret (pe_cmpR (op_eqD hr.units) (pe_callB (cr_sortT (d := d) (B := B) h1d) (by rfl) ms (by decide +kernel) (pa_cons
          (pe_lc (own := [("_law_stand", 4)]) (g := gName 4) rfl scSame.nd (pi_list (pe_ix ix_tup (pv 0) pe_int (fun _ _ => rfl))) (blkOk_by (N := ["_law_one", "_law_other", "_law_form", "_law_by", "_law_stand"]) (sc := defScope sSame) (by decide +kernel))
            (fun _ _ _ _ _ => pg_name (i := 4) scSame.nd rfl (.inl rfl)) (fun _ _ _ _ _ => pts_nil) (fun _ _ _ _ _ => pe_call GP hr (by rfl) aP.g aP.F.kp aP.b .nil pass0 (pa_cons (pv 4) (pa_cons (pv 3) pa_nil)))) pa_nil))
          (pe_ix ix_tup (pv 1) pe_int (fun _ _ => rfl)) (nomark _)))))), ?_⟩
    have d1 : Dp K H v1 (.tuple [.str (eA1 ww a), eA2 a]) := by rw [← eA_eq]; exact d1
    have d2 : Dp K H v2 (.tuple [.str (eA1 ww a), eA2 (a.mapW (SArg.f ⟨ww, a, d, z⟩))]) := by
      rw [← eA1_mapW ww (SArg.f ⟨ww, a, d, z⟩) a, ← eA_eq]; exact d2
    have d3 : Dp K H v3 (.int (SArg.form ⟨ww, a, d, z⟩)) := d3
    have d4 : Dp K H v4 (eBy z) := d4
    have one0 : ∀ (σ : L2.St) (H1 : Hp), Ex H H1 → σ[0]? = some (some v1) → ED K (tOp (rIxT K) (tVar 0) (tC (.int 0))) σ H1 (.str (eA1 ww a)) := fun σ H1 e hσ => ed_ixT (ed_var hσ (dp_mono e d1)) ed_int (atI_nat (j := 0) rfl)
    have one1 : ∀ (σ : L2.St) (H1 : Hp), Ex H H1 → σ[0]? = some (some v1) → ED K (tOp (rIxT K) (tVar 0) (tC (.int 1))) σ H1 (eA2 a) := fun σ H1 e hσ => ed_ixT (ed_var hσ (dp_mono e d1)) ed_int (atI_nat (j := 1) rfl)
    have two0 : ∀ (σ : L2.St) (H1 : Hp), Ex H H1 → σ[1]? = some (some v2) → ED K (tOp (rIxT K) (tVar 1) (tC (.int 0))) σ H1 (.str (eA1 ww a)) := fun σ H1 e hσ => ed_ixT (ed_var hσ (dp_mono e d2)) ed_int (atI_nat (j := 0) rfl)
    have two1 : ∀ (σ : L2.St) (H1 : Hp), Ex H H1 → σ[1]? = some (some v2) → ED K (tOp (rIxT K) (tVar 1) (tC (.int 1))) σ H1 (eA2 (a.mapW (SArg.f ⟨ww, a, d, z⟩))) := fun σ H1 e hσ => ed_ixT (ed_var hσ (dp_mono e d2)) ed_int (atI_nat (j := 1) rfl)
    refine q_if (et_is (et_T (ed_neS (one0 [some v1, some v2, some v3, some v4, none] H (Ex.refl H) rfl) (two0 _ H (Ex.refl H) rfl))) (show (!decide (eA1 ww a = eA1 ww a)) = false by rw [decide_eq_true rfl]; rfl)) (fun z => by cases z) fun _ H1 e1 => ?_
    have tor := et_or (et_T (ed_eqS (one0 [some v1, some v2, some v3, some v4, none] H1 e1 rfl) (ed_str (x := "row")))) fun _ => et_T (ed_eqS (one0 [some v1, some v2, some v3, some v4, none] H1 e1 rfl) (ed_str (x := "open")))
    cases a with
    | row r =>
      refine q_if (et_is tor (show (decide (("row" : Str) = "row") || decide (("row" : Str) = "open")) = true by decide +kernel)) (fun _ H2 e2 => ?_) (fun c => by cases c)
      refine s_retD (ed_eqD (one1 [some v1, some v2, some v3, some v4, none] H2 (e1.trans e2) rfl) (two1 _ H2 (e1.trans e2) rfl) ((fl_A2 _).shaped (by decide)) ((fl_A2 _).shaped (by decide))) fun v H3 e3 hv => qq v H3 ((e1.trans e2).trans e3) ?_
      rw [show Tm.Ans.mapW (SArg.f ⟨ww, .row r, d, z⟩) (.row r) = .row r from rfl, (fl_A2 (.row r)).refl] at hv
      exact hv
    | opn r =>
      refine q_if (et_is tor (show (decide (("open" : Str) = "row") || decide (("open" : Str) = "open")) = true by decide +kernel)) (fun _ H2 e2 => ?_) (fun c => by cases c)
      refine s_retD (ed_eqD (one1 [some v1, some v2, some v3, some v4, none] H2 (e1.trans e2) rfl) (two1 _ H2 (e1.trans e2) rfl) ((fl_A2 _).shaped (by decide)) ((fl_A2 _).shaped (by decide))) fun v H3 e3 hv => qq v H3 ((e1.trans e2).trans e3) ?_
      rw [show Tm.Ans.mapW (SArg.f ⟨ww, .opn r, d, z⟩) (.opn r) = .opn r from rfl, (fl_A2 (.opn r)).refl] at hv
      exact hv
    | wall b =>
      have gw : GoodW d b := hgood b rfl
      have hrow : decide (ww = "row") = false := hp.row
      have hopn : decide (ww = "open") = false := hp.opn
      refine q_if (et_is tor (show (decide (ww = "row") || decide (ww = "open")) = false by rw [hrow, hopn]; rfl)) (fun c => by cases c) (fun _ H2 e2 => ?_)
      have e02 := e1.trans e2
      have tf := et_T (ed_eqI (K := K) (σ := [some v1, some v2, some v3, some v4, none]) (ed_var (i := 2) rfl (dp_mono e02 d3)) (ed_int (i := 0)))
      cases z with
      | inl k =>
        obtain ⟨hk0, hk1⟩ := hp.scl k rfl
        refine q_if (et_is tf (show decide ((0 : Int) = 0) = true by decide)) (fun _ H3 e3 => ?_) (fun c => by cases c)
        have e03 := e02.trans e3
        have en := en_lcL (K := K) (σ := [some v1, some v2, some v3, some v4, none]) (H := H3) (tl := tOp (rIxT K) (tVar 0) (tC (.int 1))) (j := 4) (js := [4]) (tt := tYes) (te := tCall (spScaled K) [] E0 (tCons (tVar 4) (tCons (tVar 3) tNil))) b eS (fun _ => true) (fun s => eS (scl k s)) (one1 _ H3 e03 rfl) (by have := gw.few; omega) (fun _ => nol_S _) (fun _ => rfl)
          (fun s hs y H4 e4 hy => ⟨et_yes, fun _ => ed_call (K := K) (s, k) (ea_cons (ed_var rfl hy) (ea_cons (ed_var rfl (dp_mono (e03.trans e4) d4)) ea_nil)) ⟨by show 0 ≤ k; omega, hk1, by show s.length ≤ 1000; rw [gw.len s hs]; exact hmost⟩⟩)
        rw [filt] at en
        have en2 : ED K (tLc (iList K (tOp (rIxT K) (tVar 0) (tC (.int 1)))) (gName 4) tYes (tCall (spScaled K) [] E0 (tCons (tVar 4) (tCons (tVar 3) tNil))) [4]) [some v1, some v2, some v3, some v4, none] H3 (eB (b.map (scl k))) := by
          have := en.ed
          unfold eB
          rw [List.map_map]
          exact this
        have t1 := two1 [some v1, some v2, some v3, some v4, none] H3 e03 rfl
        rw [show eA2 (Tm.Ans.mapW (SArg.f ⟨ww, .wall b, d, .inl k⟩) (.wall b)) = eB (Tm.srt (b.map (scl k))) from rfl, srt_scl hk0 gw.up] at t1
        refine s_retD (ed_eqD en2 t1 ((fl_B _).shaped (by decide)) ((fl_B _).shaped (by decide))) fun v H4 e4 hv => qq v H4 (e03.trans e4) ?_
        rw [(fl_B _).refl] at hv
        exact hv
      | inr o =>
        have hpm := hp.put o rfl
        refine q_if (et_is tf (show decide ((1 : Int) = 0) = false by decide)) (fun c => by cases c) (fun _ H3 e3 => ?_)
        have e03 := e02.trans e3
        have lo : o.length = d := by rw [hpm.length_eq, List.length_range]
        have en := en_lcL (K := K) (σ := [some v1, some v2, some v3, some v4, none]) (H := H3) (tl := tOp (rIxT K) (tVar 0) (tC (.int 1))) (j := 4) (js := [4]) (tt := tYes) (te := tCall (spPutSo K) [] E0 (tCons (tVar 4) (tCons (tVar 3) tNil))) b eS (fun _ => true) (fun s => eS (put o s)) (one1 _ H3 e03 rfl) (by have := gw.few; omega) (fun _ => nol_S _) (fun _ => rfl)
          (fun s hs y H4 e4 hy => ⟨et_yes, fun _ => ed_call (K := K) (s, o) (ea_cons (ed_var rfl hy) (ea_cons (ed_var rfl (dp_mono (e03.trans e4) d4)) ea_nil)) ⟨fun i hi => by show i < s.length; rw [gw.len s hs]; exact (mem_order hpm).mp hi, by show o.length ≤ 1000; omega⟩⟩)
        rw [filt] at en
        have en2 : ED K (tLc (iList K (tOp (rIxT K) (tVar 0) (tC (.int 1)))) (gName 4) tYes (tCall (spPutSo K) [] E0 (tCons (tVar 4) (tCons (tVar 3) tNil))) [4]) [some v1, some v2, some v3, some v4, none] H3 (eB (b.map (put o))) := by
          have := en.ed
          unfold eB
          rw [List.map_map]
          exact this
        have es := (en_sorted (K := K) (B := B) h1d en2 (by rw [List.length_map]; exact gw.few) (fun s hs => (Tm.Iso.lenS (iso_put hpm) gw.len) s hs) (fun s hs => by
          obtain ⟨s0, h0, e⟩ := List.mem_map.mp hs
          subst e
          exact put_pos (gw.pos s0 h0)) hB).ed
        refine s_retD (ed_eqD es (two1 _ H3 e03 rfl) ((fl_B _).shaped (by decide)) ((fl_A2 _).shaped (by decide))) fun v H4 e4 hv => qq v H4 (e03.trans e4) ?_
        rw [show eA2 (Tm.Ans.mapW (SArg.f ⟨ww, .wall b, d, .inr o⟩) (.wall b)) = eB (Tm.srt (b.map (put o))) from rfl] at hv
        have : PyData.eqv (.list ((Tm.srt (b.map (put o))).map eS)) (eB (Tm.srt (b.map (put o)))) = true := (fl_B _).refl
        rw [this] at hv
        exact hv
end
end TK
namespace TK
open PySem PySem.Spec PyProof.Rows L2 Evl
abbrev sLaw : Stmt := topS 32
abbrev nLaw : List Str := ["_law_script", "_law_many", "_law_kind", "_law_moves_here", "_law_xs", "_law_begin", "_law_target", "_law_most", "_law_factor", "_law_order_here", "_law_one", "_law_great", "_law_far", "_law_two", "_law_mixed", "_law_three", "_law_k", "_law_more", "_law_due", "_law_x"]
theorem scLaw : FnScope nLaw ["_law_script"] (defScope sLaw) := ⟨rfl, rfl, rfl, by decide +kernel, rfl, by decide +kernel, by decide +kernel⟩
/-! ### what is known of answers -/
theorem answer_good {d : Nat} {ms : List Tm.Mv} {bg : Option Tm.St} {b0 : Tm.St} {most : Nat} (hm : most ≤ 6) {R : Tm.Wd × List (List Tm.St)} {pre : List (List Tm.St)} {top : List Tm.St} (e : R.2 = pre ++ [top]) (T : Tm.Told d ms bg most R.1 pre top) : GoodA d (Tm.answer ms b0 R) := by
  obtain ⟨w, rs⟩ := R
  have e : rs = pre ++ [top] := e
  subst e
  intro b hb
  cases w with
  | row => cases hb
  | opn => cases hb
  | bas =>
    have hb : Tm.Ans.wall ((pre ++ [top]).getLastD []) = .wall b := hb
    rw [List.getLastD_concat] at hb
    cases hb
    have := T.bas rfl
    exact ⟨T.len, T.pos, T.up, by omega⟩
theorem cover_good {d : Nat} {ms : List Tm.Mv} {bg t : Tm.St} {most : Nat} (lm : Tm.LenM d ms) (pm : Tm.PosM ms) (lt : t.length = d) (pt : ∀ i ∈ t, 0 ≤ i) (hm : most ≤ 6) : GoodA d (Tm.cover ms bg t most) := by
  obtain ⟨pre, top, e, T⟩ := Tm.rings_told lm pm (bg := some bg) lt pt (most := most)
  exact answer_good hm e T
theorem enough_good {d : Nat} {ms : List Tm.Mv} {t : Tm.St} {most : Nat} (lm : Tm.LenM d ms) (pm : Tm.PosM ms) (lt : t.length = d) (pt : ∀ i ∈ t, 0 ≤ i) (hm : most ≤ 6) : GoodA d (Tm.enough ms t most) := by
  obtain ⟨pre, top, e, T⟩ := Tm.rings_told lm pm (bg := none) lt pt (most := most)
  exact answer_good hm e T
theorem fl_A {w : Str} (hw : PyData.strOk w = true) (a : Tm.Ans) : Fl 3 (eA w a) := by
  rw [eA_eq]
  refine fl_tup fun d hd => ?_
  rcases List.mem_cons.mp hd with e | hd
  · subst e
    refine (fl_str ?_).mono (by decide)
    cases a with
    | row r => show PyData.strOk ("row" : Str) = true; decide +kernel
    | opn k => show PyData.strOk ("open" : Str) = true; decide +kernel
    | wall b => exact hw
  · have e : d = eA2 a := by simpa using hd
    subst e
    exact fl_A2 a
theorem fl_N (l : List (Option Bool)) : Fl 1 (.list (l.map eN)) := fl_list fun d hd => by
  obtain ⟨o, _, e⟩ := List.mem_map.mp hd
  subst e
  cases o with
  | none => exact fl_non
  | some b => exact fl_bl b
structure PreLaw (many : Nat) (ms : List Tm.Mv) (bg tg : Tm.St) (most : Nat) : Prop where
  one : 1 ≤ many
  four : many ≤ 4
  good : GoodMs many ms
  fm : ms.length ≤ 8
  lb : bg.length = many
  lt : tg.length = many
  pt : ∀ i ∈ tg, 0 ≤ i
  most : most ≤ 6
theorem PreLaw.c {many : Nat} {ms : List Tm.Mv} {bg tg : Tm.St} {most : Nat} (h : PreLaw many ms bg tg most) : PreR ⟨many, ms, tg, most, some bg⟩ :=
  ⟨h.one, by have := h.four; show many ≤ 1000; omega, h.good.lm, h.good.pm, h.lt, h.pt, fun b z => by cases z; exact h.lb, h.fm, h.most⟩
theorem PreLaw.e {many : Nat} {ms : List Tm.Mv} {bg tg : Tm.St} {most : Nat} (h : PreLaw many ms bg tg most) : PreR ⟨many, ms, tg, most, none⟩ :=
  ⟨h.one, by have := h.four; show many ≤ 1000; omega, h.good.lm, h.good.pm, h.lt, h.pt, (fun b z => nomatch z), h.fm, h.most⟩
theorem PreLaw.n {many : Nat} {ms : List Tm.Mv} {bg tg : Tm.St} {most : Nat} (h : PreLaw many ms bg tg most) : PreN ⟨many, ms, bg, most⟩ :=
  ⟨h.one, by have := h.four; show many ≤ 1000; omega, h.good.lm, h.good.pm, h.lb, h.fm, h.most⟩
theorem PreLaw.iso {many : Nat} {ms : List Tm.Mv} {bg tg : Tm.St} {most : Nat} {f : Tm.St → Tm.St} (h : PreLaw many ms bg tg most) (F : Tm.Iso many f) (hp : ∀ s : Tm.St, (∀ i ∈ s, 0 ≤ i) → ∀ i ∈ f s, 0 ≤ i) : PreLaw many (ms.map (Tm.fm f)) (f bg) (f tg) most :=
  ⟨h.one, h.four, ⟨F.lenM h.good.lm, fun m hm => by
    obtain ⟨m0, h0, e⟩ := List.mem_map.mp hm
    subst e
    exact ⟨hp _ (h.good.pm m0 h0).1, hp _ (h.good.pm m0 h0).2⟩⟩, by rw [List.length_map]; exact h.fm, F.len _ h.lb, F.len _ h.lt, hp _ h.pt, h.most⟩
theorem PreLaw.more {many : Nat} {ms ex : List Tm.Mv} {bg tg : Tm.St} {most : Nat} (h : PreLaw many ms bg tg most) (he : Tm.Extra many ms ex) (hl : (ms ++ ex).length ≤ 8) : PreLaw many (ms ++ ex) bg tg most :=
  ⟨h.one, h.four, ⟨Tm.lenM_more h.good.lm he, Tm.posM_more h.good.pm he⟩, hl, h.lb, h.lt, h.pt, h.most⟩
section
variable {P : Program} {w : World} {K : PySem.W.Frag} {mg : Str → Option Value} {base : Heap}
def spLaw (K : PySem.W.Frag) : Sp := fun vs H Q _ => ∃ (a : Addr) (ns : List Int), vs = [.ref a] ∧ SqL K H a (ns.map V.int) ∧ ns.length ≤ 63 ∧ ∀ H', Q (.bl true) H'
/-- the calls of the program's own defs, by data -/
theorem ed_cover {σ : L2.St} {H : Hp} {t1 t2 t3 t4 : TE} {many : Nat} {ms : List Tm.Mv} {bg tg : Tm.St} {most : Nat} (h : PreLaw many ms bg tg most) (hb : ED K t1 σ H (eS bg)) (hm : ED K t2 σ H (eMs ms)) (ht : ED K t3 σ H (eS tg)) (hn : ED K t4 σ H (.int (most : Int))) :
    ED K (tCall (spCover K) [] E0 (tCons (tTup (tCons t1 (tCons t2 tNil))) (tCons t3 (tCons t4 tNil)))) σ H (eA "wall" (Tm.cover ms bg tg most)) :=
  ed_call (K := K) (⟨many, ms, bg, tg, most⟩ : CArg) (ea_cons (ed_tup (ea_cons hb (ea_cons hm ea_nil)) (by show 2 ≤ 100000; omega)) (ea_cons ht (ea_cons hn ea_nil))) h.c
theorem ed_enough {σ : L2.St} {H : Hp} {t2 t3 t4 : TE} {many : Nat} {ms : List Tm.Mv} {bg tg : Tm.St} {most : Nat} (h : PreLaw many ms bg tg most) (hm : ED K t2 σ H (eMs ms)) (ht : ED K t3 σ H (eS tg)) (hn : ED K t4 σ H (.int (most : Int))) :
    ED K (tCall (spEnough K) [] E0 (tCons t2 (tCons t3 (tCons t4 tNil)))) σ H (eA "basis" (Tm.enough ms tg most)) :=
  ed_call (K := K) (⟨many, ms, tg, most⟩ : EArg) (ea_cons hm (ea_cons ht (ea_cons hn ea_nil))) h.e
theorem ed_never {σ : L2.St} {H : Hp} {t1 t2 t4 : TE} {many : Nat} {ms : List Tm.Mv} {bg tg : Tm.St} {most : Nat} (h : PreLaw many ms bg tg most) (hb : ED K t1 σ H (eS bg)) (hm : ED K t2 σ H (eMs ms)) (hn : ED K t4 σ H (.int (most : Int))) :
    ED K (tCall (spNever K) [] E0 (tCons (tTup (tCons t1 (tCons t2 tNil))) (tCons t4 tNil))) σ H (.list ((Tm.never ms bg most).map eN)) :=
  ed_call (K := K) (⟨many, ms, bg, most⟩ : NArg) (ea_cons (ed_tup (ea_cons hb (ea_cons hm ea_nil)) (by show 2 ≤ 100000; omega)) (ea_cons hn ea_nil)) h.n
abbrev tSa (K : PySem.W.Frag) (j z : Nat) (form : Int) : TT := tNot (tB (tCall (spSame K) [] E0 (tCons (tOp (rIxL K) (tVar 10) (tVar 16)) (tCons (tOp (rIxL K) (tVar j) (tVar 16)) (tCons (tC (.int form)) (tCons (tVar z) tNil))))))
/-- the callees of the law -/
structure Callees (P : Program) (w : World) (K : PySem.W.Frag) (mg : Str → Option Value) (base : Heap) (k : Nat) : Prop where
  cell : ∃ f fd, At K mg "_law_cell_at" sCell f fd ["_law_script", "_law_k"] ∧ FnOk P w K mg base CX0 k f fd ["_law_script", "_law_k"] (spCell K)
  moves : ∃ f fd, At K mg "_law_moves" sMoves f fd ["_law_script", "_law_many", "_law_kind"] ∧ FnOk P w K mg base CX0 k f fd ["_law_script", "_law_many", "_law_kind"] (spMoves K)
  stream : ∃ f fd, At K mg "_law_stream" sStream f fd ["_law_cell", "_law_salt", "_law_many"] ∧ FnOk P w K mg base CX0 k f fd ["_law_cell", "_law_salt", "_law_many"] (spStream K)
  count : ∃ f fd, At K mg "_law_count" sCount f fd ["_law_x", "_law_kind"] ∧ FnOk P w K mg base CX0 k f fd ["_law_x", "_law_kind"] (spCount K)
  order : ∃ f fd, At K mg "_law_order" sOrder f fd ["_law_cell", "_law_many"] ∧ FnOk P w K mg base CX0 k f fd ["_law_cell", "_law_many"] (spOrder K)
  cover : ∃ f fd, At K mg "cover" sCover f fd ["moor", "target", "most"] ∧ FnOk P w K mg base CX0 k f fd ["moor", "target", "most"] (spCover K)
  enough : ∃ f fd, At K mg "enough" sEnough f fd ["moves", "target", "most"] ∧ FnOk P w K mg base CX0 k f fd ["moves", "target", "most"] (spEnough K)
  never : ∃ f fd, At K mg "never" sNever f fd ["moor", "most"] ∧ FnOk P w K mg base CX0 k f fd ["moor", "most"] (spNever K)
  allS : ∃ f fd, At K mg "_law_all_scaled" sAllScaled f fd ["_law_moves_here", "_law_factor"] ∧ FnOk P w K mg base CX0 k f fd ["_law_moves_here", "_law_factor"] (spAllS K)
  allP : ∃ f fd, At K mg "_law_all_put_so" sAllPutSo f fd ["_law_moves_here", "_law_order_here"] ∧ FnOk P w K mg base CX0 k f fd ["_law_moves_here", "_law_order_here"] (spAllP K)
  scaled : ∃ f fd, At K mg "_law_scaled" sScaled f fd ["_law_stand", "_law_factor"] ∧ FnOk P w K mg base CX0 k f fd ["_law_stand", "_law_factor"] (spScaled K)
  putSo : ∃ f fd, At K mg "_law_put_so" sPutSo f fd ["_law_stand", "_law_order_here"] ∧ FnOk P w K mg base CX0 k f fd ["_law_stand", "_law_order_here"] (spPutSo K)
  more : ∃ f fd, At K mg "_law_more_moves" sMore f fd ["_law_moves_here", "_law_many", "_law_cell"] ∧ FnOk P w K mg base CX0 k f fd ["_law_moves_here", "_law_many", "_law_cell"] (spMore K)
  same : ∃ f fd, At K mg "_law_same" sSame f fd ["_law_one", "_law_other", "_law_form", "_law_by"] ∧ FnOk P w K mg base CX0 k f fd ["_law_one", "_law_other", "_law_form", "_law_by"] (spSame K)
  tup : mg "tuple" = none
  rng : mg "range" = none
theorem ok_law {f : Addr} {fd : FuncData} {k : Nat} (F : Fun K "law" "law" sLaw f fd) (C : Callees P w K mg base (k + 1)) : FnOk P w K mg base CX0 (k + 1 + 1) f fd ["_law_script"] (spLaw K) := by
  obtain ⟨fCe, dCe, aCe, gCe⟩ := C.cell
  obtain ⟨fMo, dMo, aMo, gMo⟩ := C.moves
  obtain ⟨fSt, dSt, aSt, gSt⟩ := C.stream
  obtain ⟨fCo, dCo, aCo, gCo⟩ := C.count
  obtain ⟨fOr, dOr, aOr, gOr⟩ := C.order
  obtain ⟨fCv, dCv, aCv, gCv⟩ := C.cover
  obtain ⟨fEn, dEn, aEn, gEn⟩ := C.enough
  obtain ⟨fNe, dNe, aNe, gNe⟩ := C.never
  obtain ⟨fAS, dAS, aAS, gAS⟩ := C.allS
  obtain ⟨fAP, dAP, aAP, gAP⟩ := C.allP
  obtain ⟨fSc, dSc, aSc, gSc⟩ := C.scaled
  obtain ⟨fPu, dPu, aPu, gPu⟩ := C.putSo
  obtain ⟨fMr, dMr, aMr, gMr⟩ := C.more
  obtain ⟨fSa, dSa, aSa, gSa⟩ := C.same
  have mt := C.tup
  have mr := C.rng
  refine F.ok scLaw (fun vs H Q E h => ?_) (fun cdv A outer s H vs Q E hr h => ?_)
  · obtain ⟨a, ns, rfl, _⟩ := h; rfl
  · obtain ⟨a, ns, rfl, hS, hlen, q⟩ := h
    have d0 : Dp K H (.ref a) (eL ns) := .lst hS (da_of_ints ns)
    refine ⟨_, (pss_cons (ps_set (i := 1) scLaw.nd rfl (.inl rfl) (pe_op op_add pe_int (pe_op op_mod (pe_call gCe hr (by rfl) aCe.g aCe.F.kp aCe.b .nil pass0 (pa_cons (pv 0) (pa_cons pe_int pa_nil))) pe_int)))
      (pss_cons (ps_set (i := 2) scLaw.nd rfl (.inr rfl) (pe_op op_mod (pe_op op_fdiv (pe_call gCe hr (by rfl) aCe.g aCe.F.kp aCe.b .nil pass0 (pa_cons (pv 0) (pa_cons pe_int pa_nil))) pe_int) pe_int))
      (pss_cons (ps_set (i := 3) scLaw.nd rfl (.inl rfl) (pe_call gMo hr (by rfl) aMo.g aMo.F.kp aMo.b .nil pass0 (pa_cons (pv 0) (pa_cons (pv 1) (pa_cons (pv 2) pa_nil)))))
      (pss_cons (ps_set (i := 4) scLaw.nd rfl (.inl rfl) (pe_call gSt hr (by rfl) aSt.g aSt.F.kp aSt.b .nil pass0 (pa_cons (pe_call gCe hr (by rfl) aCe.g aCe.F.kp aCe.b .nil pass0 (pa_cons (pv 0) (pa_cons pe_int pa_nil))) (pa_cons pe_int (pa_cons pe_int pa_nil)))))
      (pss_cons (ps_set (i := 5) scLaw.nd rfl (.inl rfl) (pe_callTy call_tuple_of (by rfl) mt (by decide +kernel) (pa_cons (pe_lc (own := [("_law_x", 19)]) (g := gName 19) rfl scLaw.nd (pi_list (pe_slice sl_list (pv 4) po_none (po_some (pv 1)))) (blkOk_by (N := nLaw) (sc := defScope sLaw) (by decide +kernel)) (fun _ _ _ _ _ => pg_name (i := 19) scLaw.nd rfl (.inl rfl)) (fun _ _ _ _ _ => pts_nil) (fun _ _ _ _ _ => (pe_call gCo hr (by rfl) aCo.g aCo.F.kp aCo.b .nil pass0 (pa_cons (pv 19) (pa_cons (pv 2) pa_nil))))) pa_nil)))
      (pss_cons (ps_set (i := 6) scLaw.nd rfl (.inl rfl) (pe_callTy call_tuple_of (by rfl) mt (by decide +kernel) (pa_cons (pe_lc (own := [("_law_x", 19)]) (g := gName 19) rfl scLaw.nd (pi_list (pe_slice sl_list (pv 4) (po_some pe_int) (po_some (pe_op op_add pe_int (pv 1))))) (blkOk_by (N := nLaw) (sc := defScope sLaw) (by decide +kernel)) (fun _ _ _ _ _ => pg_name (i := 19) scLaw.nd rfl (.inl rfl)) (fun _ _ _ _ _ => pts_nil) (fun _ _ _ _ _ => (pe_op op_add (pe_call gCo hr (by rfl) aCo.g aCo.F.kp aCo.b .nil pass0 (pa_cons (pv 19) (pa_cons (pv 2) pa_nil))) (pe_op op_mod (pe_op op_fdiv (pv 19) pe_int) pe_int)))) pa_nil)))
      (pss_cons (ps_set (i := 7) scLaw.nd rfl (.inl rfl) (pe_op op_add pe_int (pe_op op_mod (pe_ix ix_list (pv 4) pe_int (fun _ _ => rfl)) pe_int)))
      (pss_cons (ps_set (i := 8) scLaw.nd rfl (.inl rfl) (pe_op op_add pe_int (pe_op op_mod (pe_call gCe hr (by rfl) aCe.g aCe.F.kp aCe.b .nil pass0 (pa_cons (pv 0) (pa_cons pe_int pa_nil))) pe_int)))
      (pss_cons (ps_set (i := 9) scLaw.nd rfl (.inl rfl) (pe_call gOr hr (by rfl) aOr.g aOr.F.kp aOr.b .nil pass0 (pa_cons (pe_call gCe hr (by rfl) aCe.g aCe.F.kp aCe.b .nil pass0 (pa_cons (pv 0) (pa_cons pe_int pa_nil))) (pa_cons (pv 1) pa_nil))))
      (pss_cons (ps_set (i := 10) scLaw.nd rfl (.inl rfl) (pe_lst (pa_cons (pe_call gCv hr (by rfl) aCv.g aCv.F.kp aCv.b .nil pass0 (pa_cons (pe_tup (pa_cons (pv 5) (pa_cons (pv 3) pa_nil))) (pa_cons (pv 6) (pa_cons (pv 7) pa_nil)))) (pa_cons (pe_call gEn hr (by rfl) aEn.g aEn.F.kp aEn.b .nil pass0 (pa_cons (pv 3) (pa_cons (pv 6) (pa_cons (pv 7) pa_nil)))) pa_nil))))
      (pss_cons (ps_set (i := 11) scLaw.nd rfl (.inl rfl) (pe_call gAS hr (by rfl) aAS.g aAS.F.kp aAS.b .nil pass0 (pa_cons (pv 3) (pa_cons (pv 8) pa_nil))))
      (pss_cons (ps_set (i := 12) scLaw.nd rfl (.inl rfl) (pe_call gSc hr (by rfl) aSc.g aSc.F.kp aSc.b .nil pass0 (pa_cons (pv 6) (pa_cons (pv 8) pa_nil))))
      (pss_cons (ps_set (i := 13) scLaw.nd rfl (.inl rfl) (pe_lst (pa_cons (pe_call gCv hr (by rfl) aCv.g aCv.F.kp aCv.b .nil pass0 (pa_cons (pe_tup (pa_cons (pe_call gSc hr (by rfl) aSc.g aSc.F.kp aSc.b .nil pass0 (pa_cons (pv 5) (pa_cons (pv 8) pa_nil))) (pa_cons (pv 11) pa_nil))) (pa_cons (pv 12) (pa_cons (pv 7) pa_nil)))) (pa_cons (pe_call gEn hr (by rfl) aEn.g aEn.F.kp aEn.b .nil pass0 (pa_cons (pv 11) (pa_cons (pv 12) (pa_cons (pv 7) pa_nil)))) pa_nil))))
      (pss_cons (ps_set (i := 14) scLaw.nd rfl (.inl rfl) (pe_call gAP hr (by rfl) aAP.g aAP.F.kp aAP.b .nil pass0 (pa_cons (pv 3) (pa_cons (pv 9) pa_nil))))
      (pss_cons (ps_set (i := 12) scLaw.nd rfl (.inl rfl) (pe_call gPu hr (by rfl) aPu.g aPu.F.kp aPu.b .nil pass0 (pa_cons (pv 6) (pa_cons (pv 9) pa_nil))))
      (pss_cons (ps_set (i := 15) scLaw.nd rfl (.inl rfl) (pe_lst (pa_cons (pe_call gCv hr (by rfl) aCv.g aCv.F.kp aCv.b .nil pass0 (pa_cons (pe_tup (pa_cons (pe_call gPu hr (by rfl) aPu.g aPu.F.kp aPu.b .nil pass0 (pa_cons (pv 5) (pa_cons (pv 9) pa_nil))) (pa_cons (pv 14) pa_nil))) (pa_cons (pv 12) (pa_cons (pv 7) pa_nil)))) (pa_cons (pe_call gEn hr (by rfl) aEn.g aEn.F.kp aEn.b .nil pass0 (pa_cons (pv 14) (pa_cons (pv 12) (pa_cons (pv 7) pa_nil)))) pa_nil))))
      (pss_cons (ps_for PassesOwn.never rfl (pi_range1 (by rfl) mr (pa_cons pe_int pa_nil)) (pg_name (i := 16) scLaw.nd rfl (.inl rfl)) (pss_one (ps_if (PW.pt (pw_or (pt_not (pt_val (pe_call gSa hr (by rfl) aSa.g aSa.F.kp aSa.b .nil pass0 (pa_cons (pe_ix ix_list (pv 10) (pv 16) (fun _ _ => rfl)) (pa_cons (pe_ix ix_list (pv 13) (pv 16) (fun _ _ => rfl)) (pa_cons pe_int (pa_cons (pv 8) pa_nil))))))) (pw_or1 (pt_not (pt_val (pe_call gSa hr (by rfl) aSa.g aSa.F.kp aSa.b .nil pass0 (pa_cons (pe_ix ix_list (pv 10) (pv 16) (fun _ _ => rfl)) (pa_cons (pe_ix ix_list (pv 15) (pv 16) (fun _ _ => rfl)) (pa_cons pe_int (pa_cons (pv 9) pa_nil)))))))))) (pss_one (ps_ret pe_bl)) pss_nil)))
      (pss_cons (ps_set (i := 17) scLaw.nd rfl (.inl rfl) (pe_call gMr hr (by rfl) aMr.g aMr.F.kp aMr.b .nil pass0 (pa_cons (pv 3) (pa_cons (pv 1) (pa_cons (pe_call gCe hr (by rfl) aCe.g aCe.F.kp aCe.b .nil pass0 (pa_cons (pv 0) (pa_cons pe_int pa_nil))) pa_nil)))))
      (pss_cons (ps_if (PW.pt (pw_or (pt_cmpR (op_neD hr.units) (pe_call gCv hr (by rfl) aCv.g aCv.F.kp aCv.b .nil pass0 (pa_cons (pe_tup (pa_cons (pv 5) (pa_cons (pv 17) pa_nil))) (pa_cons (pv 6) (pa_cons (pv 7) pa_nil)))) (pe_ix ix_list (pv 10) pe_int (fun _ _ => rfl)) (nomark _)) (pw_or1 (pt_cmpR (op_neD hr.units) (pe_call gEn hr (by rfl) aEn.g aEn.F.kp aEn.b .nil pass0 (pa_cons (pv 17) (pa_cons (pv 6) (pa_cons (pv 7) pa_nil)))) (pe_ix ix_list (pv 10) pe_int (fun _ _ => rfl)) (nomark _))))) (pss_one (ps_ret pe_bl)) pss_nil)
      (pss_cons (ps_set (i := 18) scLaw.nd rfl (.inl rfl) (pe_call gNe hr (by rfl) aNe.g aNe.F.kp aNe.b .nil pass0 (pa_cons (pe_tup (pa_cons (pv 5) (pa_cons (pv 3) pa_nil))) (pa_cons (pv 7) pa_nil))))
      (pss_cons (ps_if (pt_cmpR (op_neD hr.units) (pe_call gNe hr (by rfl) aNe.g aNe.F.kp aNe.b .nil pass0 (pa_cons (pe_tup (pa_cons (pe_call gSc hr (by rfl) aSc.g aSc.F.kp aSc.b .nil pass0 (pa_cons (pv 5) (pa_cons (pv 8) pa_nil))) (pa_cons (pv 11) pa_nil))) (pa_cons (pv 7) pa_nil))) (pv 18) (nomark _)) (pss_one (ps_ret pe_bl)) pss_nil)
      (pss_one (ps_ret (pe_cmpR (op_eqD hr.units) (pe_call gNe hr (by rfl) aNe.g aNe.F.kp aNe.b .nil pass0 (pa_cons (pe_tup (pa_cons (pe_call gPu hr (by rfl) aPu.g aPu.F.kp aPu.b .nil pass0 (pa_cons (pv 5) (pa_cons (pv 9) pa_nil))) (pa_cons (pv 14) pa_nil))) (pa_cons (pv 7) pa_nil))) (pv 18) (nomark _))))))))))))))))))))))))), ?_⟩
    have ev := fun (i : Nat) (n : Int) (σ : L2.St) (H : Hp) (h : σ[i]? = some (some (.int n))) => ed_var (K := K) (H := H) (d := .int n) h (.int n)
    have ecell : ∀ (σ : L2.St) (H1 : Hp) (te : TE) (j : Nat), Ex H H1 → σ[0]? = some (some (.ref a)) → ED K te σ H1 (.int (j : Int)) → ED K (tCall (spCell K) [] E0 (tCons (tVar 0) (tCons te tNil))) σ H1 (.int (ns.getD j 0)) := fun σ H1 te j e hσ ht =>
      ed_call (K := K) (ns, j) (ea_cons (ed_var hσ (dp_mono e d0)) (ea_cons ht ea_nil)) trivial
    -- how many places
    have hc0 := Int.emod_nonneg (ns.getD 0 0) (show (4 : Int) ≠ 0 by decide)
    have hc1 := Int.emod_lt_of_pos (ns.getD 0 0) (show (0 : Int) < 4 by decide)
    obtain ⟨many, hmany⟩ : ∃ many : Nat, 1 + ns.getD 0 0 % 4 = (many : Int) := ⟨(1 + ns.getD 0 0 % 4).toNat, by omega⟩
    have h1 : 1 ≤ many := by omega
    have h4 : many ≤ 4 := by omega
    refine q_asgD (K := K) (ed_is (ed_I0 (g := fun i j => i + j) (ed_int (i := 1)) (ed_I (C := fun _ j => 0 < j) (g := fun i j => i % j) (ecell _ H _ 0 (Ex.refl H) rfl (ed_int (i := 0))) (ed_int (i := 4)) (by decide))) (show PyData.int (1 + ns.getD 0 0 % 4) = .int (many : Int) by rw [hmany])) fun v1 H1 e1 hv1 => ?_
    cases dp_int hv1
    show tSeq _ _ _ [some (.ref a), some (.int (many : Int)), none, none, none, none, none, none, none, none, none, none, none, none, none, none, none, none, none, none] H1
    -- the kind
    refine q_asgD (K := K) (ed_I (C := fun _ j => 0 < j) (g := fun i j => i % j) (ed_I (C := CDiv) (g := fun i j => i / j) (ecell _ H1 _ 0 e1 rfl (ed_int (i := 0))) (ed_int (i := 4)) ⟨by decide, by decide⟩) (ed_int (i := 2)) (by decide)) fun v2 H2 e2 hv2 => ?_
    cases dp_int hv2
    clear hv1 hv2
    generalize ns.getD 0 0 / 4 % 2 = kind
    show tSeq _ _ _ [some (.ref a), some (.int (many : Int)), some (.int kind), none, none, none, none, none, none, none, none, none, none, none, none, none, none, none, none, none] H2
    -- the moves
    refine q_asgS (K := K) (ns, many, kind) (ea_cons (ed_var rfl (dp_mono (e1.trans e2) d0)) (ea_cons (ev 1 (many : Int) _ _ rfl) (ea_cons (ev 2 kind _ _ rfl) ea_nil))) ⟨h1, h4⟩ fun r v3 H3 hres e3 hv3 _ => ?_
    obtain ⟨ms, rfl, hgood, hm1, hm4⟩ := hres
    have hgood : GoodMs many ms := hgood
    have e03 := (e1.trans e2).trans e3
    show tSeq _ _ _ [some (.ref a), some (.int (many : Int)), some (.int kind), some v3, none, none, none, none, none, none, none, none, none, none, none, none, none, none, none, none] H3
    -- the stream
    refine q_asgS (K := K) (ns.getD 3 0, 20, 9) (ea_cons (ecell _ H3 _ 3 e03 rfl (ed_int (i := 3))) (ea_cons (ed_int (i := 20)) (ea_cons (ed_int (i := 9)) ea_nil))) ⟨by show 20 ≤ 100; omega, by show 9 ≤ 100; omega⟩ fun r v4 H4 hres e4 hv4 _ => ?_
    obtain ⟨xs, rfl, hxs⟩ := hres
    have hxs : xs.length = 9 := hxs
    have hv4 : Dp K H4 v4 (.list (xs.map PyData.int)) := hv4
    have e04 := e03.trans e4
    show tSeq _ _ _ [some (.ref a), some (.int (many : Int)), some (.int kind), some v3, some v4, none, none, none, none, none, none, none, none, none, none, none, none, none, none, none] H4
    -- the beginning
    have sl1 : ED K (tSl (rSlL K) (tVar 4) tNoPart (tPart (tVar 1))) [some (.ref a), some (.int (many : Int)), some (.int kind), some v3, some v4, none, none, none, none, none, none, none, none, none, none, none, none, none, none, none] H4 (.list ((xs.take many).map PyData.int)) := by
      have := (en_slice (K := K) (σ := [some (.ref a), some (.int (many : Int)), some (.int kind), some v3, some v4, none, none, none, none, none, none, none, none, none, none, none, none, none, none, none]) (te := tVar 4) (ed_var rfl hv4) eo_none (eo_some (iv (ev 1 (many : Int) _ _ rfl)))).ed
      rw [cut_take, ← List.map_take] at this
      exact this
    refine q_asgD (ed_tuple (en_counts (K := K) (kind := kind) [19] 19 2 sl1 (by rw [List.length_take]; omega) (fun _ => rfl) (fun _ => rfl) (fun _ => rfl)).ed) fun v5 H5 e5 hv5 => ?_
    have lb : ((xs.take many).map fun x => cnt x kind).length = many := by rw [List.length_map, List.length_take]; omega
    have hv5 : Dp K H5 v5 (eS ((xs.take many).map fun x => cnt x kind)) := hv5
    show tSeq _ _ _ [some (.ref a), some (.int (many : Int)), some (.int kind), some v3, some v4, some v5, none, none, none, none, none, none, none, none, none, none, none, none, none, none] H5
    -- the target
    have sl2 : ED K (tSl (rSlL K) (tVar 4) (tPart (tC (.int 4))) (tPart (tOp (rI0 fun i j => .int (i + j)) (tC (.int 4)) (tVar 1)))) [some (.ref a), some (.int (many : Int)), some (.int kind), some v3, some v4, some v5, none, none, none, none, none, none, none, none, none, none, none, none, none, none] H5 (.list (((xs.drop 4).take many).map PyData.int)) := by
      have := (en_slice (K := K) (σ := [some (.ref a), some (.int (many : Int)), some (.int kind), some v3, some v4, some v5, none, none, none, none, none, none, none, none, none, none, none, none, none, none]) (te := tVar 4) (ed_var rfl (dp_mono e5 hv4)) (eo_some (ev_c (v := .int ((4 : Nat) : Int)))) (eo_some (iv (ed_is (ed_I0 (K := K) (g := fun i j => i + j) (ed_int (i := 4)) (ev 1 (many : Int) _ _ rfl)) (show PyData.int (4 + (many : Int)) = .int ((4 + many : Nat) : Int) by congr 1))))).ed
      rw [cut_mid _ 4 many (by rw [List.length_map, hxs]; omega), ← List.map_drop, ← List.map_take] at this
      exact this
    have en6 := en_lcL (K := K) (σ := [some (.ref a), some (.int (many : Int)), some (.int kind), some v3, some v4, some v5, none, none, none, none, none, none, none, none, none, none, none, none, none, none]) (H := H5) (j := 19) (js := [19]) (tt := tYes) (te := tOp (rI0 fun i j => .int (i + j)) (tCall (spCount K) [] E0 (tCons (tVar 19) (tCons (tVar 2) tNil))) (tOp (rI (fun _ j => 0 < j) fun i j => .int (i % j)) (tOp (rI CDiv fun i j => .int (i / j)) (tVar 19) (tC (.int 9))) (tC (.int 2)))) ((xs.drop 4).take many) PyData.int (fun _ => true) (fun x => .int (cnt x kind + x / 9 % 2)) sl2 (by rw [List.length_take, List.length_drop]; omega) (fun _ => nol_int _) (fun _ => rfl)
      (fun x _ y H6 e6 hy => ⟨et_yes, fun _ => ed_I0 (g := fun i j => i + j) (ed_call (K := K) (x, kind) (ea_cons (ed_var rfl hy) (ea_cons (ed_var rfl (.int kind)) ea_nil)) trivial) (ed_I (C := fun _ j => 0 < j) (g := fun i j => i % j) (ed_I (C := CDiv) (g := fun i j => i / j) (ed_var rfl hy) (ed_int (i := 9)) ⟨by decide, by decide⟩) (ed_int (i := 2)) (by decide))⟩)
    rw [filt] at en6
    have en6' : ED K _ _ H5 (eS (((xs.drop 4).take many).map fun x => cnt x kind + x / 9 % 2)) := ed_is (ed_tuple en6.ed) (by unfold eS; rw [List.map_map]; rfl)
    refine q_asgD en6' fun v6 H6 e6 hv6 => ?_
    clear en6 en6' sl1 sl2
    show tSeq _ _ _ [some (.ref a), some (.int (many : Int)), some (.int kind), some v3, some v4, some v5, some v6, none, none, none, none, none, none, none, none, none, none, none, none, none] H6
    have lt : (((xs.drop 4).take many).map fun x => cnt x kind + x / 9 % 2).length = many := by rw [List.length_map, List.length_take, List.length_drop]; omega
    have pt : ∀ i ∈ ((xs.drop 4).take many).map fun x => cnt x kind + x / 9 % 2, 0 ≤ i := fun i hi => by
      obtain ⟨x, _, e⟩ := List.mem_map.mp hi
      rw [← e]
      have := cnt_pos x kind
      omega
    revert lb lt pt hv5 hv6
    generalize ((xs.take many).map fun x => cnt x kind) = bg
    generalize (((xs.drop 4).take many).map fun x => cnt x kind + x / 9 % 2) = tg
    intro lb hv5 hv6 lt pt
    -- the bound
    have g8 : (xs.map PyData.int)[8]? = some (.int xs[8]) := by rw [List.getElem?_map, List.getElem?_eq_getElem (by omega)]; rfl
    have hd0 := Int.emod_nonneg xs[8] (show (6 : Int) ≠ 0 by decide)
    have hd1 := Int.emod_lt_of_pos xs[8] (show (0 : Int) < 6 by decide)
    obtain ⟨most, hmost⟩ : ∃ most : Nat, 1 + xs[8] % 6 = (most : Int) := ⟨(1 + xs[8] % 6).toNat, by omega⟩
    have hm6 : most ≤ 6 := by omega
    refine q_asgD (K := K) (ed_is (ed_I0 (g := fun i j => i + j) (ed_int (i := 1)) (ed_I (C := fun _ j => 0 < j) (g := fun i j => i % j) (ed_ixL (k := 8) (ed_var rfl (dp_mono (e5.trans e6) hv4)) (ed_int (i := 8)) (atI_nat (j := 8) g8)) (ed_int (i := 6)) (by decide))) (show PyData.int (1 + xs[8] % 6) = .int (most : Int) by rw [hmost])) fun v7 H7 e7 hv7 => ?_
    cases dp_int hv7
    show tSeq _ _ _ [some (.ref a), some (.int (many : Int)), some (.int kind), some v3, some v4, some v5, some v6, some (.int (most : Int)), none, none, none, none, none, none, none, none, none, none, none, none] H7
    have e47 := (e5.trans e6).trans e7
    -- the factor
    have hf0 := Int.emod_nonneg (ns.getD 4 0) (show (99999999 : Int) ≠ 0 by decide)
    have hf1 := Int.emod_lt_of_pos (ns.getD 4 0) (show (0 : Int) < 99999999 by decide)
    refine q_asgD (K := K) (ed_I0 (g := fun i j => i + j) (ed_int (i := 2)) (ed_I (C := fun _ j => 0 < j) (g := fun i j => i % j) (ecell _ H7 _ 4 (e04.trans e47) rfl (ed_int (i := 4))) (ed_int (i := 99999999)) (by decide))) fun v8 H8 e8 hv8 => ?_
    cases dp_int hv8
    have hk0 : 0 < 2 + ns.getD 4 0 % 99999999 := by omega
    have hk1 : 2 + ns.getD 4 0 % 99999999 < 2 ^ 64 := by omega
    clear hv7 hv8
    revert hk0 hk1
    generalize 2 + ns.getD 4 0 % 99999999 = fac
    intro hk0 hk1
    show tSeq _ _ _ [some (.ref a), some (.int (many : Int)), some (.int kind), some v3, some v4, some v5, some v6, some (.int (most : Int)), some (.int fac), none, none, none, none, none, none, none, none, none, none, none] H8
    -- the order
    refine q_asgS (K := K) (ns.getD 4 0, many) (ea_cons (ecell _ H8 _ 4 ((e04.trans e47).trans e8) rfl (ed_int (i := 4))) (ea_cons (ev 1 (many : Int) _ _ rfl) ea_nil)) ⟨by show many ≤ 100; omega⟩ fun r v9 H9 hres e9 hv9 _ => ?_
    obtain ⟨o, rfl, hperm⟩ := hres
    have hperm : o.Perm (List.range many) := hperm
    have lo : o.length = many := by rw [hperm.length_eq, List.length_range]
    show tSeq _ _ _ [some (.ref a), some (.int (many : Int)), some (.int kind), some v3, some v4, some v5, some v6, some (.int (most : Int)), some (.int fac), some v9, none, none, none, none, none, none, none, none, none, none] H9
    have e79 := e8.trans e9
    have D3 : Dp K H9 v3 (eMs ms) := dp_mono ((e4.trans e47).trans e79) hv3
    have D5 : Dp K H9 v5 (eS bg) := dp_mono ((e6.trans e7).trans e79) hv5
    have D6 : Dp K H9 v6 (eS tg) := dp_mono (e7.trans e79) hv6
    have D0 : Dp K H9 (.ref a) (eL ns) := dp_mono ((e04.trans e47).trans e79) d0
    have D9 : Dp K H9 v9 (.list (eI o)) := hv9
    have eH9 : Ex H H9 := (e04.trans e47).trans e79
    have hpl : PreLaw many ms bg tg most := ⟨h1, h4, hgood, by omega, lb, lt, pt, hm6⟩
    have isoS := iso_scl hk0 many
    have isoP := iso_put hperm
    have hplS := hpl.iso isoS fun s => scl_pos hk0
    have hplP := hpl.iso isoP fun s => put_pos
    -- one
    refine q_asgD (EN.ed (en_lst (ea_cons (ed_cover hpl (ed_var rfl D5) (ed_var rfl D3) (ed_var rfl D6) (ed_var rfl (.int (most : Int)))) (ea_cons (ed_enough hpl (ed_var rfl D3) (ed_var rfl D6) (ed_var rfl (.int (most : Int)))) ea_nil)) (by show 2 ≤ 100000; omega))) fun v10 HA eA10 D10 => ?_
    show tSeq _ _ _ [some (.ref a), some (.int (many : Int)), some (.int kind), some v3, some v4, some v5, some v6, some (.int (most : Int)), some (.int fac), some v9, some v10, none, none, none, none, none, none, none, none, none] HA
    -- great, far
    refine q_asgD (ed_call (K := K) (ms, fac) (ea_cons (ed_var rfl (dp_mono eA10 D3)) (ea_cons (ed_var rfl (.int fac)) ea_nil)) ⟨by show 0 ≤ fac; omega, hk1, by show ms.length ≤ 1000; omega, fun m hm => by have := hgood.lm m hm; exact ⟨by omega, by omega⟩⟩) fun v11 HB eB11 D11 => ?_
    have D11 : Dp K HB v11 (eMs (ms.map (Tm.fm (scl fac)))) := D11
    show tSeq _ _ _ [some (.ref a), some (.int (many : Int)), some (.int kind), some v3, some v4, some v5, some v6, some (.int (most : Int)), some (.int fac), some v9, some v10, some v11, none, none, none, none, none, none, none, none] HB
    refine q_asgD (ed_call (K := K) (tg, fac) (ea_cons (ed_var rfl (dp_mono (eA10.trans eB11) D6)) (ea_cons (ed_var rfl (.int fac)) ea_nil)) ⟨by show 0 ≤ fac; omega, hk1, by show tg.length ≤ 1000; omega⟩) fun v12 HC eC12 D12 => ?_
    have D12 : Dp K HC v12 (eS (scl fac tg)) := D12
    show tSeq _ _ _ [some (.ref a), some (.int (many : Int)), some (.int kind), some v3, some v4, some v5, some v6, some (.int (most : Int)), some (.int fac), some v9, some v10, some v11, some v12, none, none, none, none, none, none, none] HC
    have e9C := (eA10.trans eB11).trans eC12
    -- two
    refine q_asgD (EN.ed (en_lst (ea_cons (ed_cover hplS (ed_call (K := K) (bg, fac) (ea_cons (ed_var rfl (dp_mono e9C D5)) (ea_cons (ed_var rfl (.int fac)) ea_nil)) ⟨by show 0 ≤ fac; omega, hk1, by show bg.length ≤ 1000; omega⟩) (ed_var rfl (dp_mono eC12 D11)) (ed_var rfl D12) (ed_var rfl (.int (most : Int)))) (ea_cons (ed_enough hplS (ed_var rfl (dp_mono eC12 D11)) (ed_var rfl D12) (ed_var rfl (.int (most : Int)))) ea_nil)) (by show 2 ≤ 100000; omega))) fun v13 HD eD13 D13 => ?_
    show tSeq _ _ _ [some (.ref a), some (.int (many : Int)), some (.int kind), some v3, some v4, some v5, some v6, some (.int (most : Int)), some (.int fac), some v9, some v10, some v11, some v12, some v13, none, none, none, none, none, none] HD
    have e9D := e9C.trans eD13
    -- mixed, far
    refine q_asgD (ed_call (K := K) (ms, o) (ea_cons (ed_var rfl (dp_mono e9D D3)) (ea_cons (ed_var rfl (dp_mono e9D D9)) ea_nil)) ⟨by show ms.length ≤ 1000; omega, fun m hm i hi => by
      have := hgood.lm m hm
      have hi := (mem_order hperm).mp hi
      exact ⟨by omega, by omega⟩, by show o.length ≤ 1000; omega⟩) fun v14 HE eE14 D14 => ?_
    have D14 : Dp K HE v14 (eMs (ms.map (Tm.fm (put o)))) := D14
    show tSeq _ _ _ [some (.ref a), some (.int (many : Int)), some (.int kind), some v3, some v4, some v5, some v6, some (.int (most : Int)), some (.int fac), some v9, some v10, some v11, some v12, some v13, some v14, none, none, none, none, none] HE
    refine q_asgD (ed_call (K := K) (tg, o) (ea_cons (ed_var rfl (dp_mono (e9D.trans eE14) D6)) (ea_cons (ed_var rfl (dp_mono (e9D.trans eE14) D9)) ea_nil)) ⟨fun i hi => by
      have hi := (mem_order hperm).mp hi
      show i < tg.length
      omega, by show o.length ≤ 1000; omega⟩) fun v12' HF eF12 D12' => ?_
    have D12' : Dp K HF v12' (eS (put o tg)) := D12'
    show tSeq _ _ _ [some (.ref a), some (.int (many : Int)), some (.int kind), some v3, some v4, some v5, some v6, some (.int (most : Int)), some (.int fac), some v9, some v10, some v11, some v12', some v13, some v14, none, none, none, none, none] HF
    have e9F := (e9D.trans eE14).trans eF12
    have putBg : ∀ (σ : L2.St) (H' : Hp), Ex H9 H' → σ[5]? = some (some v5) → σ[9]? = some (some v9) → ED K (tCall (spPutSo K) [] E0 (tCons (tVar 5) (tCons (tVar 9) tNil))) σ H' (eS (put o bg)) := fun σ H' e h5 h9 =>
      ed_call (K := K) (bg, o) (ea_cons (ed_var h5 (dp_mono e D5)) (ea_cons (ed_var h9 (dp_mono e D9)) ea_nil)) ⟨fun i hi => by
        have hi := (mem_order hperm).mp hi
        show i < bg.length
        omega, by show o.length ≤ 1000; omega⟩
    -- three
    refine q_asgD (EN.ed (en_lst (ea_cons (ed_cover hplP (putBg _ HF e9F rfl rfl) (ed_var rfl (dp_mono eF12 D14)) (ed_var rfl D12') (ed_var rfl (.int (most : Int)))) (ea_cons (ed_enough hplP (ed_var rfl (dp_mono eF12 D14)) (ed_var rfl D12') (ed_var rfl (.int (most : Int)))) ea_nil)) (by show 2 ≤ 100000; omega))) fun v15 HG eG15 D15 => ?_
    show tSeq _ _ _ [some (.ref a), some (.int (many : Int)), some (.int kind), some v3, some v4, some v5, some v6, some (.int (most : Int)), some (.int fac), some v9, some v10, some v11, some v12', some v13, some v14, some v15, none, none, none, none] HG
    have e9G := e9F.trans eG15
    -- what stands behind all of them
    have cS : Tm.cover (ms.map (Tm.fm (scl fac))) (scl fac bg) (scl fac tg) most = (Tm.cover ms bg tg most).mapW (scl fac) := Tm.cover_iso isoS hgood.lm hgood.pm lb lt pt
    have nS : Tm.enough (ms.map (Tm.fm (scl fac))) (scl fac tg) most = (Tm.enough ms tg most).mapW (scl fac) := Tm.enough_iso isoS hgood.lm hgood.pm lt pt
    have cP : Tm.cover (ms.map (Tm.fm (put o))) (put o bg) (put o tg) most = (Tm.cover ms bg tg most).mapW (put o) := Tm.cover_iso isoP hgood.lm hgood.pm lb lt pt
    have nP : Tm.enough (ms.map (Tm.fm (put o))) (put o tg) most = (Tm.enough ms tg most).mapW (put o) := Tm.enough_iso isoP hgood.lm hgood.pm lt pt
    rw [cS, nS] at D13
    rw [cP, nP] at D15
    have gC := cover_good (bg := bg) (most := most) hgood.lm hgood.pm lt pt hm6
    have gN := enough_good (most := most) hgood.lm hgood.pm lt pt hm6
    have G10 : Dp K HG v10 (.list [eA "wall" (Tm.cover ms bg tg most), eA "basis" (Tm.enough ms tg most)]) := dp_mono (((((eB11.trans eC12).trans eD13).trans eE14).trans eF12).trans eG15) D10
    have G13 : Dp K HG v13 (.list [eA "wall" ((Tm.cover ms bg tg most).mapW (scl fac)), eA "basis" ((Tm.enough ms tg most).mapW (scl fac))]) := dp_mono ((eE14.trans eF12).trans eG15) D13
    have G15 : Dp K HG v15 (.list [eA "wall" ((Tm.cover ms bg tg most).mapW (put o)), eA "basis" ((Tm.enough ms tg most).mapW (put o))]) := D15
    have G9 : Dp K HG v9 (.list (eI o)) := dp_mono e9G D9
    clear cS nS cP nP D13 D15 D10
    -- the loop
    have turn : ∀ (i : Nat) (ww : Str) (an : Tm.Ans) (H' : Hp), Ex HG H' → PyData.strOk ww = true → decide (ww = "row") = false → decide (ww = "open") = false → GoodA many an →
        [eA "wall" (Tm.cover ms bg tg most), eA "basis" (Tm.enough ms tg most)][i]? = some (eA ww an) →
        [eA "wall" ((Tm.cover ms bg tg most).mapW (scl fac)), eA "basis" ((Tm.enough ms tg most).mapW (scl fac))][i]? = some (eA ww (an.mapW (scl fac))) →
        [eA "wall" ((Tm.cover ms bg tg most).mapW (put o)), eA "basis" ((Tm.enough ms tg most).mapW (put o))][i]? = some (eA ww (an.mapW (put o))) →
        EvT (tOr (tSa K 13 8 0) (tSa K 15 9 1))
          [some (.ref a), some (.int (many : Int)), some (.int kind), some v3, some v4, some v5, some v6, some (.int (most : Int)), some (.int fac), some v9, some v10, some v11, some v12', some v13, some v14, some v15, some (.int (i : Int)), none, none, none] H' false := fun i ww an H' e w1 w2 w3 ga i1 i2 i3 =>
      et_is (et_or (et_not (et_D (ed_call (K := K) (⟨ww, an, many, .inl fac⟩ : SArg) (ea_cons (ed_ixL (ed_var rfl (dp_mono e G10)) (ed_var rfl (.int (i : Int))) (atI_nat i1)) (ea_cons (ed_ixL (ed_var rfl (dp_mono e G13)) (ed_var rfl (.int (i : Int))) (atI_nat i2)) (ea_cons (ed_int (i := 0)) (ea_cons (ed_var rfl (.int fac)) ea_nil)))) ⟨w1, w2, w3, h1, by show many ≤ 1000; omega, ga, fun k z => by cases z; exact ⟨hk0, hk1⟩, (fun o z => nomatch z)⟩)))
        fun _ => et_not (et_D (ed_call (K := K) (⟨ww, an, many, .inr o⟩ : SArg) (ea_cons (ed_ixL (ed_var rfl (dp_mono e G10)) (ed_var rfl (.int (i : Int))) (atI_nat i1)) (ea_cons (ed_ixL (ed_var rfl (dp_mono e G15)) (ed_var rfl (.int (i : Int))) (atI_nat i3)) (ea_cons (ed_int (i := 1)) (ea_cons (ed_var rfl (dp_mono e G9)) ea_nil)))) ⟨w1, w2, w3, h1, by show many ≤ 1000; omega, ga, (fun k z => nomatch z), fun o' z => by cases z; exact hperm⟩))) rfl
    refine q_forR1 (j := 16) (n := 2) (Evl.ea_cons ev_c Evl.ea_nil) ⟨by omega, by omega⟩ (fun i σ H' => ∃ y16, σ = [some (.ref a), some (.int (many : Int)), some (.int kind), some v3, some v4, some v5, some v6, some (.int (most : Int)), some (.int fac), some v9, some v10, some v11, some v12', some v13, some v14, some v15, y16, none, none, none] ∧ Ex HG H') ?_ ?_ ?_
    · intro H2 e2
      exact ⟨none, rfl, e2⟩
    · intro i σ' H' hi pp
      obtain ⟨y16, rfl, e⟩ := pp
      have hi2 : i = 0 ∨ i = 1 := by omega
      have tt : EvT (tOr (tSa K 13 8 0) (tSa K 15 9 1)) [some (.ref a), some (.int (many : Int)), some (.int kind), some v3, some v4, some v5, some v6, some (.int (most : Int)), some (.int fac), some v9, some v10, some v11, some v12', some v13, some v14, some v15, some (.int (i : Int)), none, none, none] H' false := by
        rcases hi2 with rfl | rfl
        · exact turn 0 "wall" (Tm.cover ms bg tg most) H' e (by decide +kernel) (by decide +kernel) (by decide +kernel) gC rfl rfl rfl
        · exact turn 1 "basis" (Tm.enough ms tg most) H' e (by decide +kernel) (by decide +kernel) (by decide +kernel) gN rfl rfl rfl
      refine s_if tt (fun z => by cases z) fun _ H2 e2 => ?_
      exact ⟨_, rfl, e.trans e2⟩
    · intro σ' H' pp
      obtain ⟨y16, rfl, eGI⟩ := pp
      -- more
      have e9I := e9G.trans eGI
      refine q_asgS (K := K) (ms, many, ns.getD 2 0) (ea_cons (ed_var rfl (dp_mono e9I D3)) (ea_cons (ev 1 (many : Int) _ _ rfl) (ea_cons (ecell _ H' _ 2 (eH9.trans e9I) rfl (ed_int (i := 2))) ea_nil))) ⟨by show many ≤ 100; omega, by show 1 ≤ ms.length; omega, by show ms.length ≤ 100; omega⟩ fun r v17 HJ hres eIJ hv17 _ => ?_
      obtain ⟨ex, rfl, hex, hexl⟩ := hres
      have hex : Tm.Extra many ms ex := hex
      show tSeq _ _ _ [some (.ref a), some (.int (many : Int)), some (.int kind), some v3, some v4, some v5, some v6, some (.int (most : Int)), some (.int fac), some v9, some v10, some v11, some v12', some v13, some v14, some v15, y16, some v17, none, none] HJ
      have hplM := hpl.more hex (by rw [List.length_append]; omega)
      have e9J := e9I.trans eIJ
      have eGJ := eGI.trans eIJ
      have cM : Tm.cover (ms ++ ex) bg tg most = Tm.cover ms bg tg most := Tm.cover_more hgood.lm hgood.pm hex lb lt pt
      have nM : Tm.enough (ms ++ ex) tg most = Tm.enough ms tg most := Tm.enough_more hgood.lm hgood.pm hex lt pt
      have ec := ed_cover (K := K) (σ := [some (.ref a), some (.int (many : Int)), some (.int kind), some v3, some v4, some v5, some v6, some (.int (most : Int)), some (.int fac), some v9, some v10, some v11, some v12', some v13, some v14, some v15, y16, some v17, none, none]) (H := HJ) (t1 := tVar 5) (t2 := tVar 17) (t3 := tVar 6) (t4 := tVar 7) hplM (ed_var rfl (dp_mono e9J D5)) (ed_var rfl hv17) (ed_var rfl (dp_mono e9J D6)) (ed_var rfl (.int (most : Int)))
      have en := ed_enough (K := K) (σ := [some (.ref a), some (.int (many : Int)), some (.int kind), some v3, some v4, some v5, some v6, some (.int (most : Int)), some (.int fac), some v9, some v10, some v11, some v12', some v13, some v14, some v15, y16, some v17, none, none]) (H := HJ) (t2 := tVar 17) (t3 := tVar 6) (t4 := tVar 7) hplM (ed_var rfl hv17) (ed_var rfl (dp_mono e9J D6)) (ed_var rfl (.int (most : Int)))
      rw [cM] at ec
      rw [nM] at en
      have shW := (fl_A (w := "wall") (by decide +kernel) (Tm.cover ms bg tg most))
      have shB := (fl_A (w := "basis") (by decide +kernel) (Tm.enough ms tg most))
      have t2 := et_or (et_T (ed_neD ec (ed_ixL (d := eA "wall" (Tm.cover ms bg tg most)) (ed_var (i := 10) rfl (dp_mono eGJ G10)) (ed_int (i := 0)) (atI_nat (j := 0) rfl)) (shW.shaped (by decide)) (shW.shaped (by decide))))
        fun _ => et_T (ed_neD en (ed_ixL (d := eA "basis" (Tm.enough ms tg most)) (ed_var (i := 10) rfl (dp_mono eGJ G10)) (ed_int (i := 1)) (atI_nat (j := 1) rfl)) (shB.shaped (by decide)) (shB.shaped (by decide)))
      rw [shW.refl, shB.refl] at t2
      refine q_if (et_is t2 rfl) (fun z => by cases z) fun _ HK eJK => ?_
      -- never
      have e9K := e9J.trans eJK
      refine q_asgD (ed_never hpl (ed_var rfl (dp_mono e9K D5)) (ed_var rfl (dp_mono e9K D3)) (ed_var rfl (.int (most : Int)))) fun v18 HL eKL D18 => ?_
      show tSeq _ _ _ [some (.ref a), some (.int (many : Int)), some (.int kind), some v3, some v4, some v5, some v6, some (.int (most : Int)), some (.int fac), some v9, some v10, some v11, some v12', some v13, some v14, some v15, y16, some v17, some v18, none] HL
      have e9L := e9K.trans eKL
      have nvS : Tm.never (ms.map (Tm.fm (scl fac))) (scl fac bg) most = Tm.never ms bg most := Tm.never_iso isoS hgood.lm hgood.pm lb
      have nvP : Tm.never (ms.map (Tm.fm (put o))) (put o bg) most = Tm.never ms bg most := Tm.never_iso isoP hgood.lm hgood.pm lb
      have eBL := ((((((eC12.trans eD13).trans eE14).trans eF12).trans eG15).trans eGJ).trans eJK).trans eKL
      have eEL := (((eF12.trans eG15).trans eGJ).trans eJK).trans eKL
      have es := ed_never (K := K) (σ := [some (.ref a), some (.int (many : Int)), some (.int kind), some v3, some v4, some v5, some v6, some (.int (most : Int)), some (.int fac), some v9, some v10, some v11, some v12', some v13, some v14, some v15, y16, some v17, some v18, none]) (H := HL) (t1 := tCall (spScaled K) [] E0 (tCons (tVar 5) (tCons (tVar 8) tNil))) (t2 := tVar 11) (t4 := tVar 7) hplS (ed_call (K := K) (bg, fac) (ea_cons (ed_var rfl (dp_mono e9L D5)) (ea_cons (ed_var rfl (.int fac)) ea_nil)) ⟨by show 0 ≤ fac; omega, hk1, by show bg.length ≤ 1000; omega⟩) (ed_var rfl (dp_mono eBL D11)) (ed_var rfl (.int (most : Int)))
      rw [nvS] at es
      have shN := fl_N (Tm.never ms bg most)
      have t3 := et_T (ed_neD es (ed_var (i := 18) rfl D18) (shN.shaped (by decide)) (shN.shaped (by decide)))
      rw [shN.refl] at t3
      refine q_if (et_is t3 rfl) (fun z => by cases z) fun _ HM eLM => ?_
      have eP := ed_never (K := K) (σ := [some (.ref a), some (.int (many : Int)), some (.int kind), some v3, some v4, some v5, some v6, some (.int (most : Int)), some (.int fac), some v9, some v10, some v11, some v12', some v13, some v14, some v15, y16, some v17, some v18, none]) (H := HM) (t1 := tCall (spPutSo K) [] E0 (tCons (tVar 5) (tCons (tVar 9) tNil))) (t2 := tVar 14) (t4 := tVar 7) hplP (putBg _ HM (e9L.trans eLM) rfl rfl) (ed_var rfl (dp_mono (eEL.trans eLM) D14)) (ed_var rfl (.int (most : Int)))
      rw [nvP] at eP
      have e4 := ed_eqD eP (ed_var (i := 18) rfl (dp_mono eLM D18)) (shN.shaped (by decide)) (shN.shaped (by decide))
      rw [shN.refl] at e4
      refine s_retD e4 ?_
      intro v HN eMN hv
      rw [dp_bl hv]
      exact q HN
end
end TK
namespace TK
open PySem PySem.Spec PyProof.Rows L2 Evl
theorem all_mk {l : PySem.W.OpenLaw} {w : World} {K : PySem.W.Frag} {h : Heap} {mg : Str → Option Value} {fa : Addr} (X : K.In h) (G : h.Ns mainGlobals mg) (hfa : mg "law" = some (.ref fa))
    {f1 f2 f3 f4 f5 f6 f7 f8 f9 f10 f11 f12 f13 f14 f15 f16 f17 f18 f19 f20 f21 f22 f23 f24 f25 f26 : Addr} {od1 od2 od3 od4 od5 od6 od7 od8 od9 od10 od11 od12 od13 od14 od15 od16 od17 od18 od19 od20 od21 od22 od23 od24 od25 od26 an1 an2 an3 an4 an5 an6 an7 an8 an9 an10 an11 an12 an13 an14 an15 an16 an17 an18 an19 an20 an21 an22 an23 an24 an25 an26 : Option Addr} {sl1 sl2 sl3 sl4 sl5 sl6 sl7 sl8 sl9 sl10 sl11 sl12 sl13 sl14 sl15 sl16 sl17 sl18 sl19 sl20 sl21 sl22 sl23 sl24 sl25 sl26 : Array (Option Value)}
    {oc1 kV1 dc1 pm1 cd1 ct1 oc2 kV2 dc2 pm2 cd2 ct2 oc3 kV3 dc3 pm3 cd3 ct3 oc4 kV4 dc4 pm4 cd4 ct4 oc5 kV5 dc5 pm5 cd5 ct5 oc6 kV6 dc6 pm6 cd6 ct6 oc7 kV7 dc7 pm7 cd7 ct7 oc8 kV8 dc8 pm8 cd8 ct8 oc9 kV9 dc9 pm9 cd9 ct9 oc10 kV10 dc10 pm10 cd10 ct10 oc11 kV11 dc11 pm11 cd11 ct11 oc12 kV12 dc12 pm12 cd12 ct12 oc13 kV13 dc13 pm13 cd13 ct13 oc14 kV14 dc14 pm14 cd14 ct14 oc15 kV15 dc15 pm15 cd15 ct15 oc16 kV16 dc16 pm16 cd16 ct16 oc17 kV17 dc17 pm17 cd17 ct17 oc18 kV18 dc18 pm18 cd18 ct18 oc19 kV19 dc19 pm19 cd19 ct19 oc20 kV20 dc20 pm20 cd20 ct20 oc21 kV21 dc21 pm21 cd21 ct21 oc22 kV22 dc22 pm22 cd22 ct22 oc23 kV23 dc23 pm23 cd23 ct23 oc24 kV24 dc24 pm24 cd24 ct24 oc25 kV25 dc25 pm25 cd25 ct25 oc26 kV26 dc26 pm26 cd26 ct26 : Value}
    (a1 : PySem.W.nsIn K mainGlobals "covers" = some (some (.ref f1))) (l1 : K.lookup f1 = some ⟨oc1, od1, .func (PySem.W.fnOf "covers" "covers" (defArgs sCovers) (defBody sCovers) (defScope sCovers) .none kV1 dc1 pm1 an1 cd1 ct1), sl1⟩) (c1 : PySem.W.codeIn K cd1 "covers" = true) (k1 : PySem.W.keepIn K (.ref f1) = true)
    (a2 : PySem.W.nsIn K mainGlobals "able" = some (some (.ref f2))) (l2 : K.lookup f2 = some ⟨oc2, od2, .func (PySem.W.fnOf "able" "able" (defArgs sAble) (defBody sAble) (defScope sAble) .none kV2 dc2 pm2 an2 cd2 ct2), sl2⟩) (c2 : PySem.W.codeIn K cd2 "able" = true) (k2 : PySem.W.keepIn K (.ref f2) = true)
    (a3 : PySem.W.nsIn K mainGlobals "change" = some (some (.ref f3))) (l3 : K.lookup f3 = some ⟨oc3, od3, .func (PySem.W.fnOf "change" "change" (defArgs sChange) (defBody sChange) (defScope sChange) .none kV3 dc3 pm3 an3 cd3 ct3), sl3⟩) (c3 : PySem.W.codeIn K cd3 "change" = true) (k3 : PySem.W.keepIn K (.ref f3) = true)
    (a4 : PySem.W.nsIn K mainGlobals "after" = some (some (.ref f4))) (l4 : K.lookup f4 = some ⟨oc4, od4, .func (PySem.W.fnOf "after" "after" (defArgs sAfter) (defBody sAfter) (defScope sAfter) .none kV4 dc4 pm4 an4 cd4 ct4), sl4⟩) (c4 : PySem.W.codeIn K cd4 "after" = true) (k4 : PySem.W.keepIn K (.ref f4) = true)
    (a5 : PySem.W.nsIn K mainGlobals "lifted" = some (some (.ref f5))) (l5 : K.lookup f5 = some ⟨oc5, od5, .func (PySem.W.fnOf "lifted" "lifted" (defArgs sLifted) (defBody sLifted) (defScope sLifted) .none kV5 dc5 pm5 an5 cd5 ct5), sl5⟩) (c5 : PySem.W.codeIn K cd5 "lifted" = true) (k5 : PySem.W.keepIn K (.ref f5) = true)
    (a6 : PySem.W.nsIn K mainGlobals "least" = some (some (.ref f6))) (l6 : K.lookup f6 = some ⟨oc6, od6, .func (PySem.W.fnOf "least" "least" (defArgs sLeast) (defBody sLeast) (defScope sLeast) .none kV6 dc6 pm6 an6 cd6 ct6), sl6⟩) (c6 : PySem.W.codeIn K cd6 "least" = true) (k6 : PySem.W.keepIn K (.ref f6) = true)
    (a7 : PySem.W.nsIn K mainGlobals "source" = some (some (.ref f7))) (l7 : K.lookup f7 = some ⟨oc7, od7, .func (PySem.W.fnOf "source" "source" (defArgs sSource) (defBody sSource) (defScope sSource) .none kV7 dc7 pm7 an7 cd7 ct7), sl7⟩) (c7 : PySem.W.codeIn K cd7 "source" = true) (k7 : PySem.W.keepIn K (.ref f7) = true)
    (a8 : PySem.W.nsIn K mainGlobals "sources" = some (some (.ref f8))) (l8 : K.lookup f8 = some ⟨oc8, od8, .func (PySem.W.fnOf "sources" "sources" (defArgs sSources) (defBody sSources) (defScope sSources) .none kV8 dc8 pm8 an8 cd8 ct8), sl8⟩) (c8 : PySem.W.codeIn K cd8 "sources" = true) (k8 : PySem.W.keepIn K (.ref f8) = true)
    (a9 : PySem.W.nsIn K mainGlobals "step_back" = some (some (.ref f9))) (l9 : K.lookup f9 = some ⟨oc9, od9, .func (PySem.W.fnOf "step_back" "step_back" (defArgs sStepBack) (defBody sStepBack) (defScope sStepBack) .none kV9 dc9 pm9 an9 cd9 ct9), sl9⟩) (c9 : PySem.W.codeIn K cd9 "step_back" = true) (k9 : PySem.W.keepIn K (.ref f9) = true)
    (a10 : PySem.W.nsIn K mainGlobals "rings_of" = some (some (.ref f10))) (l10 : K.lookup f10 = some ⟨oc10, od10, .func (PySem.W.fnOf "rings_of" "rings_of" (defArgs sRings) (defBody sRings) (defScope sRings) .none kV10 dc10 pm10 an10 cd10 ct10), sl10⟩) (c10 : PySem.W.codeIn K cd10 "rings_of" = true) (k10 : PySem.W.keepIn K (.ref f10) = true)
    (a11 : PySem.W.nsIn K mainGlobals "enough" = some (some (.ref f11))) (l11 : K.lookup f11 = some ⟨oc11, od11, .func (PySem.W.fnOf "enough" "enough" (defArgs sEnough) (defBody sEnough) (defScope sEnough) .none kV11 dc11 pm11 an11 cd11 ct11), sl11⟩) (c11 : PySem.W.codeIn K cd11 "enough" = true) (k11 : PySem.W.keepIn K (.ref f11) = true)
    (a12 : PySem.W.nsIn K mainGlobals "first_row" = some (some (.ref f12))) (l12 : K.lookup f12 = some ⟨oc12, od12, .func (PySem.W.fnOf "first_row" "first_row" (defArgs sFirst) (defBody sFirst) (defScope sFirst) .none kV12 dc12 pm12 an12 cd12 ct12), sl12⟩) (c12 : PySem.W.codeIn K cd12 "first_row" = true) (k12 : PySem.W.keepIn K (.ref f12) = true)
    (a13 : PySem.W.nsIn K mainGlobals "cover" = some (some (.ref f13))) (l13 : K.lookup f13 = some ⟨oc13, od13, .func (PySem.W.fnOf "cover" "cover" (defArgs sCover) (defBody sCover) (defScope sCover) .none kV13 dc13 pm13 an13 cd13 ct13), sl13⟩) (c13 : PySem.W.codeIn K cd13 "cover" = true) (k13 : PySem.W.keepIn K (.ref f13) = true)
    (a14 : PySem.W.nsIn K mainGlobals "never" = some (some (.ref f14))) (l14 : K.lookup f14 = some ⟨oc14, od14, .func (PySem.W.fnOf "never" "never" (defArgs sNever) (defBody sNever) (defScope sNever) .none kV14 dc14 pm14 an14 cd14 ct14), sl14⟩) (c14 : PySem.W.codeIn K cd14 "never" = true) (k14 : PySem.W.keepIn K (.ref f14) = true)
    (a15 : PySem.W.nsIn K mainGlobals "_law_cell_at" = some (some (.ref f15))) (l15 : K.lookup f15 = some ⟨oc15, od15, .func (PySem.W.fnOf "_law_cell_at" "_law_cell_at" (defArgs sCell) (defBody sCell) (defScope sCell) .none kV15 dc15 pm15 an15 cd15 ct15), sl15⟩) (c15 : PySem.W.codeIn K cd15 "_law_cell_at" = true) (k15 : PySem.W.keepIn K (.ref f15) = true)
    (a16 : PySem.W.nsIn K mainGlobals "_law_stream" = some (some (.ref f16))) (l16 : K.lookup f16 = some ⟨oc16, od16, .func (PySem.W.fnOf "_law_stream" "_law_stream" (defArgs sStream) (defBody sStream) (defScope sStream) .none kV16 dc16 pm16 an16 cd16 ct16), sl16⟩) (c16 : PySem.W.codeIn K cd16 "_law_stream" = true) (k16 : PySem.W.keepIn K (.ref f16) = true)
    (a17 : PySem.W.nsIn K mainGlobals "_law_count" = some (some (.ref f17))) (l17 : K.lookup f17 = some ⟨oc17, od17, .func (PySem.W.fnOf "_law_count" "_law_count" (defArgs sCount) (defBody sCount) (defScope sCount) .none kV17 dc17 pm17 an17 cd17 ct17), sl17⟩) (c17 : PySem.W.codeIn K cd17 "_law_count" = true) (k17 : PySem.W.keepIn K (.ref f17) = true)
    (a18 : PySem.W.nsIn K mainGlobals "_law_moves" = some (some (.ref f18))) (l18 : K.lookup f18 = some ⟨oc18, od18, .func (PySem.W.fnOf "_law_moves" "_law_moves" (defArgs sMoves) (defBody sMoves) (defScope sMoves) .none kV18 dc18 pm18 an18 cd18 ct18), sl18⟩) (c18 : PySem.W.codeIn K cd18 "_law_moves" = true) (k18 : PySem.W.keepIn K (.ref f18) = true)
    (a19 : PySem.W.nsIn K mainGlobals "_law_order" = some (some (.ref f19))) (l19 : K.lookup f19 = some ⟨oc19, od19, .func (PySem.W.fnOf "_law_order" "_law_order" (defArgs sOrder) (defBody sOrder) (defScope sOrder) .none kV19 dc19 pm19 an19 cd19 ct19), sl19⟩) (c19 : PySem.W.codeIn K cd19 "_law_order" = true) (k19 : PySem.W.keepIn K (.ref f19) = true)
    (a20 : PySem.W.nsIn K mainGlobals "_law_scaled" = some (some (.ref f20))) (l20 : K.lookup f20 = some ⟨oc20, od20, .func (PySem.W.fnOf "_law_scaled" "_law_scaled" (defArgs sScaled) (defBody sScaled) (defScope sScaled) .none kV20 dc20 pm20 an20 cd20 ct20), sl20⟩) (c20 : PySem.W.codeIn K cd20 "_law_scaled" = true) (k20 : PySem.W.keepIn K (.ref f20) = true)
    (a21 : PySem.W.nsIn K mainGlobals "_law_put_so" = some (some (.ref f21))) (l21 : K.lookup f21 = some ⟨oc21, od21, .func (PySem.W.fnOf "_law_put_so" "_law_put_so" (defArgs sPutSo) (defBody sPutSo) (defScope sPutSo) .none kV21 dc21 pm21 an21 cd21 ct21), sl21⟩) (c21 : PySem.W.codeIn K cd21 "_law_put_so" = true) (k21 : PySem.W.keepIn K (.ref f21) = true)
    (a22 : PySem.W.nsIn K mainGlobals "_law_all_scaled" = some (some (.ref f22))) (l22 : K.lookup f22 = some ⟨oc22, od22, .func (PySem.W.fnOf "_law_all_scaled" "_law_all_scaled" (defArgs sAllScaled) (defBody sAllScaled) (defScope sAllScaled) .none kV22 dc22 pm22 an22 cd22 ct22), sl22⟩) (c22 : PySem.W.codeIn K cd22 "_law_all_scaled" = true) (k22 : PySem.W.keepIn K (.ref f22) = true)
    (a23 : PySem.W.nsIn K mainGlobals "_law_all_put_so" = some (some (.ref f23))) (l23 : K.lookup f23 = some ⟨oc23, od23, .func (PySem.W.fnOf "_law_all_put_so" "_law_all_put_so" (defArgs sAllPutSo) (defBody sAllPutSo) (defScope sAllPutSo) .none kV23 dc23 pm23 an23 cd23 ct23), sl23⟩) (c23 : PySem.W.codeIn K cd23 "_law_all_put_so" = true) (k23 : PySem.W.keepIn K (.ref f23) = true)
    (a24 : PySem.W.nsIn K mainGlobals "_law_more_moves" = some (some (.ref f24))) (l24 : K.lookup f24 = some ⟨oc24, od24, .func (PySem.W.fnOf "_law_more_moves" "_law_more_moves" (defArgs sMore) (defBody sMore) (defScope sMore) .none kV24 dc24 pm24 an24 cd24 ct24), sl24⟩) (c24 : PySem.W.codeIn K cd24 "_law_more_moves" = true) (k24 : PySem.W.keepIn K (.ref f24) = true)
    (a25 : PySem.W.nsIn K mainGlobals "_law_same" = some (some (.ref f25))) (l25 : K.lookup f25 = some ⟨oc25, od25, .func (PySem.W.fnOf "_law_same" "_law_same" (defArgs sSame) (defBody sSame) (defScope sSame) .none kV25 dc25 pm25 an25 cd25 ct25), sl25⟩) (c25 : PySem.W.codeIn K cd25 "_law_same" = true) (k25 : PySem.W.keepIn K (.ref f25) = true)
    (a26 : PySem.W.nsIn K mainGlobals "law" = some (some (.ref f26))) (l26 : K.lookup f26 = some ⟨oc26, od26, .func (PySem.W.fnOf "law" "law" (defArgs sLaw) (defBody sLaw) (defScope sLaw) .none kV26 dc26 pm26 an26 cd26 ct26), sl26⟩) (c26 : PySem.W.codeIn K cd26 "law" = true) (k26 : PySem.W.keepIn K (.ref f26) = true)
    (z1 : PySem.W.nsIn K mainGlobals "zip" = some none)    (z2 : PySem.W.nsIn K mainGlobals "tuple" = some none)    (z3 : PySem.W.nsIn K mainGlobals "max" = some none)    (z4 : PySem.W.nsIn K mainGlobals "min" = some none)    (z5 : PySem.W.nsIn K mainGlobals "sorted" = some none)    (z6 : PySem.W.nsIn K mainGlobals "len" = some none)    (z7 : PySem.W.nsIn K mainGlobals "reversed" = some none)    (z8 : PySem.W.nsIn K mainGlobals "range" = some none)    (z9 : PySem.W.nsIn K mainGlobals "list" = some none) :
    ∃ fd : FuncData, (∀ (s : Shared) (v : Value), BindsTo s fd ⟨[v], []⟩ [("_law_script", v)]) ∧ ∀ base : Heap, K.In base → base.Ns mainGlobals mg → FnOk l.prog w K mg base CX0 8 fa fd ["_law_script"] (spLaw K) := by
  have e := hfa.symm.trans (PySem.W.mg_of X G a26)
  cases e
  have F1 := fun_mk (st := sCovers) l1 c1 k1
  have A1 : At K mg "covers" sCovers f1 _ ["stand", "other"] := ⟨F1, F1.binds (ps := ["stand", "other"]) fun _ _ _ _ _ _ us hl => match us, hl with | [_, _], _ => rfl, PySem.W.mg_of X G a1⟩
  have F2 := fun_mk (st := sAble) l2 c2 k2
  have A2 : At K mg "able" sAble f2 _ ["stand", "move"] := ⟨F2, F2.binds (ps := ["stand", "move"]) fun _ _ _ _ _ _ us hl => match us, hl with | [_, _], _ => rfl, PySem.W.mg_of X G a2⟩
  have F3 := fun_mk (st := sChange) l3 c3 k3
  have A3 : At K mg "change" sChange f3 _ ["move"] := ⟨F3, F3.binds (ps := ["move"]) fun _ _ _ _ _ _ us hl => match us, hl with | [_], _ => rfl, PySem.W.mg_of X G a3⟩
  have F4 := fun_mk (st := sAfter) l4 c4 k4
  have A4 : At K mg "after" sAfter f4 _ ["stand", "move"] := ⟨F4, F4.binds (ps := ["stand", "move"]) fun _ _ _ _ _ _ us hl => match us, hl with | [_, _], _ => rfl, PySem.W.mg_of X G a4⟩
  have F5 := fun_mk (st := sLifted) l5 c5 k5
  have A5 : At K mg "lifted" sLifted f5 _ ["stand", "basis"] := ⟨F5, F5.binds (ps := ["stand", "basis"]) fun _ _ _ _ _ _ us hl => match us, hl with | [_, _], _ => rfl, PySem.W.mg_of X G a5⟩
  have F6 := fun_mk (st := sLeast) l6 c6 k6
  have A6 : At K mg "least" sLeast f6 _ ["stands"] := ⟨F6, F6.binds (ps := ["stands"]) fun _ _ _ _ _ _ us hl => match us, hl with | [_], _ => rfl, PySem.W.mg_of X G a6⟩
  have F7 := fun_mk (st := sSource) l7 c7 k7
  have A7 : At K mg "source" sSource f7 _ ["stand", "move"] := ⟨F7, F7.binds (ps := ["stand", "move"]) fun _ _ _ _ _ _ us hl => match us, hl with | [_, _], _ => rfl, PySem.W.mg_of X G a7⟩
  have F8 := fun_mk (st := sSources) l8 c8 k8
  have A8 : At K mg "sources" sSources f8 _ ["moves", "stands"] := ⟨F8, F8.binds (ps := ["moves", "stands"]) fun _ _ _ _ _ _ us hl => match us, hl with | [_, _], _ => rfl, PySem.W.mg_of X G a8⟩
  have F9 := fun_mk (st := sStepBack) l9 c9 k9
  have A9 : At K mg "step_back" sStepBack f9 _ ["moves", "basis"] := ⟨F9, F9.binds (ps := ["moves", "basis"]) fun _ _ _ _ _ _ us hl => match us, hl with | [_, _], _ => rfl, PySem.W.mg_of X G a9⟩
  have F10 := fun_mk (st := sRings) l10 c10 k10
  have A10 : At K mg "rings_of" sRings f10 _ ["moves", "target", "most", "begin"] := ⟨F10, F10.binds (ps := ["moves", "target", "most", "begin"]) fun _ _ _ _ _ _ us hl => match us, hl with | [_, _, _, _], _ => rfl, PySem.W.mg_of X G a10⟩
  have F11 := fun_mk (st := sEnough) l11 c11 k11
  have A11 : At K mg "enough" sEnough f11 _ ["moves", "target", "most"] := ⟨F11, F11.binds (ps := ["moves", "target", "most"]) fun _ _ _ _ _ _ us hl => match us, hl with | [_, _, _], _ => rfl, PySem.W.mg_of X G a11⟩
  have F12 := fun_mk (st := sFirst) l12 c12 k12
  have A12 : At K mg "first_row" sFirst f12 _ ["moves", "stand", "rings"] := ⟨F12, F12.binds (ps := ["moves", "stand", "rings"]) fun _ _ _ _ _ _ us hl => match us, hl with | [_, _, _], _ => rfl, PySem.W.mg_of X G a12⟩
  have F13 := fun_mk (st := sCover) l13 c13 k13
  have A13 : At K mg "cover" sCover f13 _ ["moor", "target", "most"] := ⟨F13, F13.binds (ps := ["moor", "target", "most"]) fun _ _ _ _ _ _ us hl => match us, hl with | [_, _, _], _ => rfl, PySem.W.mg_of X G a13⟩
  have F14 := fun_mk (st := sNever) l14 c14 k14
  have A14 : At K mg "never" sNever f14 _ ["moor", "most"] := ⟨F14, F14.binds (ps := ["moor", "most"]) fun _ _ _ _ _ _ us hl => match us, hl with | [_, _], _ => rfl, PySem.W.mg_of X G a14⟩
  have F15 := fun_mk (st := sCell) l15 c15 k15
  have A15 : At K mg "_law_cell_at" sCell f15 _ ["_law_script", "_law_k"] := ⟨F15, F15.binds (ps := ["_law_script", "_law_k"]) fun _ _ _ _ _ _ us hl => match us, hl with | [_, _], _ => rfl, PySem.W.mg_of X G a15⟩
  have F16 := fun_mk (st := sStream) l16 c16 k16
  have A16 : At K mg "_law_stream" sStream f16 _ ["_law_cell", "_law_salt", "_law_many"] := ⟨F16, F16.binds (ps := ["_law_cell", "_law_salt", "_law_many"]) fun _ _ _ _ _ _ us hl => match us, hl with | [_, _, _], _ => rfl, PySem.W.mg_of X G a16⟩
  have F17 := fun_mk (st := sCount) l17 c17 k17
  have A17 : At K mg "_law_count" sCount f17 _ ["_law_x", "_law_kind"] := ⟨F17, F17.binds (ps := ["_law_x", "_law_kind"]) fun _ _ _ _ _ _ us hl => match us, hl with | [_, _], _ => rfl, PySem.W.mg_of X G a17⟩
  have F18 := fun_mk (st := sMoves) l18 c18 k18
  have A18 : At K mg "_law_moves" sMoves f18 _ ["_law_script", "_law_many", "_law_kind"] := ⟨F18, F18.binds (ps := ["_law_script", "_law_many", "_law_kind"]) fun _ _ _ _ _ _ us hl => match us, hl with | [_, _, _], _ => rfl, PySem.W.mg_of X G a18⟩
  have F19 := fun_mk (st := sOrder) l19 c19 k19
  have A19 : At K mg "_law_order" sOrder f19 _ ["_law_cell", "_law_many"] := ⟨F19, F19.binds (ps := ["_law_cell", "_law_many"]) fun _ _ _ _ _ _ us hl => match us, hl with | [_, _], _ => rfl, PySem.W.mg_of X G a19⟩
  have F20 := fun_mk (st := sScaled) l20 c20 k20
  have A20 : At K mg "_law_scaled" sScaled f20 _ ["_law_stand", "_law_factor"] := ⟨F20, F20.binds (ps := ["_law_stand", "_law_factor"]) fun _ _ _ _ _ _ us hl => match us, hl with | [_, _], _ => rfl, PySem.W.mg_of X G a20⟩
  have F21 := fun_mk (st := sPutSo) l21 c21 k21
  have A21 : At K mg "_law_put_so" sPutSo f21 _ ["_law_stand", "_law_order_here"] := ⟨F21, F21.binds (ps := ["_law_stand", "_law_order_here"]) fun _ _ _ _ _ _ us hl => match us, hl with | [_, _], _ => rfl, PySem.W.mg_of X G a21⟩
  have F22 := fun_mk (st := sAllScaled) l22 c22 k22
  have A22 : At K mg "_law_all_scaled" sAllScaled f22 _ ["_law_moves_here", "_law_factor"] := ⟨F22, F22.binds (ps := ["_law_moves_here", "_law_factor"]) fun _ _ _ _ _ _ us hl => match us, hl with | [_, _], _ => rfl, PySem.W.mg_of X G a22⟩
  have F23 := fun_mk (st := sAllPutSo) l23 c23 k23
  have A23 : At K mg "_law_all_put_so" sAllPutSo f23 _ ["_law_moves_here", "_law_order_here"] := ⟨F23, F23.binds (ps := ["_law_moves_here", "_law_order_here"]) fun _ _ _ _ _ _ us hl => match us, hl with | [_, _], _ => rfl, PySem.W.mg_of X G a23⟩
  have F24 := fun_mk (st := sMore) l24 c24 k24
  have A24 : At K mg "_law_more_moves" sMore f24 _ ["_law_moves_here", "_law_many", "_law_cell"] := ⟨F24, F24.binds (ps := ["_law_moves_here", "_law_many", "_law_cell"]) fun _ _ _ _ _ _ us hl => match us, hl with | [_, _, _], _ => rfl, PySem.W.mg_of X G a24⟩
  have F25 := fun_mk (st := sSame) l25 c25 k25
  have A25 : At K mg "_law_same" sSame f25 _ ["_law_one", "_law_other", "_law_form", "_law_by"] := ⟨F25, F25.binds (ps := ["_law_one", "_law_other", "_law_form", "_law_by"]) fun _ _ _ _ _ _ us hl => match us, hl with | [_, _, _, _], _ => rfl, PySem.W.mg_of X G a25⟩
  have F26 := fun_mk (st := sLaw) l26 c26 k26
  have mZip := PySem.W.mg_none_of X G z1
  have mTuple := PySem.W.mg_none_of X G z2
  have mMax := PySem.W.mg_none_of X G z3
  have mMin := PySem.W.mg_none_of X G z4
  have mSorted := PySem.W.mg_none_of X G z5
  have mLen := PySem.W.mg_none_of X G z6
  have mReversed := PySem.W.mg_none_of X G z7
  have mRange := PySem.W.mg_none_of X G z8
  have mList := PySem.W.mg_none_of X G z9
  refine ⟨PySem.W.fnOf "law" "law" (defArgs sLaw) (defBody sLaw) (defScope sLaw) .none kV26 dc26 pm26 an26 cd26 ct26, fun s v => .of_eq rfl, fun base _ _ => ?_⟩
  have gCovers : FnOk l.prog w K mg base CX0 1 f1 _ ["stand", "other"] _ := ok_covers (k := 0) F1 mZip
  have gAble : FnOk l.prog w K mg base CX0 2 f2 _ ["stand", "move"] _ := ok_able (k := 0) F2 A1 gCovers
  have gChange : FnOk l.prog w K mg base CX0 1 f3 _ ["move"] _ := ok_change (k := 0) F3 mZip mTuple
  have gAfter : FnOk l.prog w K mg base CX0 3 f4 _ ["stand", "move"] _ := ok_after (k := 1) F4 A2 gAble A3 (gChange.mono (by decide)) mZip mTuple
  have gLifted : FnOk l.prog w K mg base CX0 2 f5 _ ["stand", "basis"] _ := ok_lifted (k := 0) F5 A1 gCovers
  have gLeast : FnOk l.prog w K mg base CX0 3 f6 _ ["stands"] _ := ok_least (k := 1) F6 A1 (gCovers.mono (by decide)) A5 gLifted mSorted
  have gSource : FnOk l.prog w K mg base CX0 1 f7 _ ["stand", "move"] _ := ok_source (k := 0) F7 mZip mTuple mMax
  have gSources : FnOk l.prog w K mg base CX0 2 f8 _ ["moves", "stands"] _ := ok_sources (k := 0) F8 A7 gSource
  have gStep : FnOk l.prog w K mg base CX0 4 f9 _ ["moves", "basis"] _ := ok_step (k := 2) F9 A6 gLeast A8 (gSources.mono (by decide))
  have gRings : FnOk l.prog w K mg base CX0 5 f10 _ ["moves", "target", "most", "begin"] _ := ok_rings (k := 3) F10 A5 (gLifted.mono (by decide)) A6 (gLeast.mono (by decide)) A9 gStep mLen
  have gEnough : FnOk l.prog w K mg base CX0 6 f11 _ ["moves", "target", "most"] _ := ok_enough (k := 4) F11 A10 gRings mLen
  have gFirst : FnOk l.prog w K mg base CX0 4 f12 _ ["moves", "stand", "rings"] _ := ok_first (k := 2) F12 A2 (gAble.mono (by decide)) A5 (gLifted.mono (by decide)) A4 gAfter mReversed
  have gCover : FnOk l.prog w K mg base CX0 6 f13 _ ["moor", "target", "most"] _ := ok_cover (k := 4) F13 A10 gRings A12 (gFirst.mono (by decide)) mLen
  have gNever : FnOk l.prog w K mg base CX0 7 f14 _ ["moor", "most"] _ := ok_never (k := 5) F14 A13 gCover
  have gCell : FnOk l.prog w K mg base CX0 1 f15 _ ["_law_script", "_law_k"] _ := ok_cell (k := 0) F15 mLen
  have gStream : FnOk l.prog w K mg base CX0 1 f16 _ ["_law_cell", "_law_salt", "_law_many"] _ := ok_stream (k := 0) F16 mRange
  have gCount : FnOk l.prog w K mg base CX0 1 f17 _ ["_law_x", "_law_kind"] _ := ok_count (k := 0) F17
  have gMoves : FnOk l.prog w K mg base CX0 2 f18 _ ["_law_script", "_law_many", "_law_kind"] _ := ok_moves (k := 0) F18 A15 gCell A16 gStream A17 gCount mRange mMin mTuple
  have gOrder : FnOk l.prog w K mg base CX0 1 f19 _ ["_law_cell", "_law_many"] _ := ok_order (k := 0) F19 mList mRange mLen
  have gScaled : FnOk l.prog w K mg base CX0 1 f20 _ ["_law_stand", "_law_factor"] _ := ok_scaled (k := 0) F20 mTuple
  have gPut : FnOk l.prog w K mg base CX0 1 f21 _ ["_law_stand", "_law_order_here"] _ := ok_put (k := 0) F21 mTuple
  have gAllS : FnOk l.prog w K mg base CX0 2 f22 _ ["_law_moves_here", "_law_factor"] _ := ok_allS (k := 0) F22 A20 gScaled mTuple
  have gAllP : FnOk l.prog w K mg base CX0 2 f23 _ ["_law_moves_here", "_law_order_here"] _ := ok_allP (k := 0) F23 A21 gPut mTuple
  have gMore : FnOk l.prog w K mg base CX0 1 f24 _ ["_law_moves_here", "_law_many", "_law_cell"] _ := ok_more (k := 0) F24 mList mRange mLen mTuple
  have gSame : FnOk l.prog w K mg base CX0 2 f25 _ ["_law_one", "_law_other", "_law_form", "_law_by"] _ := ok_same (k := 0) F25 A20 gScaled A21 gPut mSorted
  exact ok_law (k := 6) F26 ⟨⟨_, _, A15, (gCell.mono (by decide))⟩, ⟨_, _, A18, (gMoves.mono (by decide))⟩, ⟨_, _, A16, (gStream.mono (by decide))⟩, ⟨_, _, A17, (gCount.mono (by decide))⟩, ⟨_, _, A19, (gOrder.mono (by decide))⟩, ⟨_, _, A13, (gCover.mono (by decide))⟩, ⟨_, _, A11, (gEnough.mono (by decide))⟩, ⟨_, _, A14, gNever⟩, ⟨_, _, A22, (gAllS.mono (by decide))⟩, ⟨_, _, A23, (gAllP.mono (by decide))⟩, ⟨_, _, A20, (gScaled.mono (by decide))⟩, ⟨_, _, A21, (gPut.mono (by decide))⟩, ⟨_, _, A24, (gMore.mono (by decide))⟩, ⟨_, _, A25, (gSame.mono (by decide))⟩, mTuple, mRange⟩
end TK
open PySem PySem.W PyProof.Rows
set_option maxHeartbeats 0 in
theorem PySem.Challenge.cw_tokenmoor_k27_whole_scaled_and_moved_holds : PySem.Challenge.rw_tokenmoor_k27_whole_scaled_and_moved.Holds := by
  w_on; o_law; k_head; (case hw => w_witness2)
  k_fill
  refine L2.walk_of (l := PySem.Challenge.rw_tokenmoor_k27_whole_scaled_and_moved) (n := 63) (k := 8) (x := "_law_script") (CX := fun _ => L2.CX0) (sp := fun w => TK.spLaw _) rfl (by decide) rfl ⟨rfl, by decide, by decide⟩ (fun w h Y => PySem.W.kIn_of Y) ?F (fun _ _ a ns hl _ hS => ⟨a, ns, rfl, hS, hl, fun _ => rfl⟩) (fun _ _ _ _ _ h => h)
  case F =>
    intro w mg fa h KX G hmg
    refine' TK.all_mk KX G hmg ?a1 ?l1 ?c1 ?k1 ?a2 ?l2 ?c2 ?k2 ?a3 ?l3 ?c3 ?k3 ?a4 ?l4 ?c4 ?k4 ?a5 ?l5 ?c5 ?k5 ?a6 ?l6 ?c6 ?k6 ?a7 ?l7 ?c7 ?k7 ?a8 ?l8 ?c8 ?k8 ?a9 ?l9 ?c9 ?k9 ?a10 ?l10 ?c10 ?k10 ?a11 ?l11 ?c11 ?k11 ?a12 ?l12 ?c12 ?k12 ?a13 ?l13 ?c13 ?k13 ?a14 ?l14 ?c14 ?k14 ?a15 ?l15 ?c15 ?k15 ?a16 ?l16 ?c16 ?k16 ?a17 ?l17 ?c17 ?k17 ?a18 ?l18 ?c18 ?k18 ?a19 ?l19 ?c19 ?k19 ?a20 ?l20 ?c20 ?k20 ?a21 ?l21 ?c21 ?k21 ?a22 ?l22 ?c22 ?k22 ?a23 ?l23 ?c23 ?k23 ?a24 ?l24 ?c24 ?k24 ?a25 ?l25 ?c25 ?k25 ?a26 ?l26 ?c26 ?k26 ?z1 ?z2 ?z3 ?z4 ?z5 ?z6 ?z7 ?z8 ?z9
    (case a1 => k_is); (case l1 => k_is); (case c1 => k_is); (case k1 => k_is); (case a2 => k_is); (case l2 => k_is); (case c2 => k_is); (case k2 => k_is); (case a3 => k_is); (case l3 => k_is); (case c3 => k_is); (case k3 => k_is); (case a4 => k_is); (case l4 => k_is); (case c4 => k_is); (case k4 => k_is); (case a5 => k_is); (case l5 => k_is); (case c5 => k_is); (case k5 => k_is); (case a6 => k_is); (case l6 => k_is); (case c6 => k_is); (case k6 => k_is); (case a7 => k_is); (case l7 => k_is); (case c7 => k_is); (case k7 => k_is); (case a8 => k_is); (case l8 => k_is); (case c8 => k_is); (case k8 => k_is); (case a9 => k_is); (case l9 => k_is); (case c9 => k_is); (case k9 => k_is); (case a10 => k_is); (case l10 => k_is); (case c10 => k_is); (case k10 => k_is); (case a11 => k_is); (case l11 => k_is); (case c11 => k_is); (case k11 => k_is); (case a12 => k_is); (case l12 => k_is); (case c12 => k_is); (case k12 => k_is); (case a13 => k_is); (case l13 => k_is); (case c13 => k_is); (case k13 => k_is); (case a14 => k_is); (case l14 => k_is); (case c14 => k_is); (case k14 => k_is); (case a15 => k_is); (case l15 => k_is); (case c15 => k_is); (case k15 => k_is); (case a16 => k_is); (case l16 => k_is); (case c16 => k_is); (case k16 => k_is); (case a17 => k_is); (case l17 => k_is); (case c17 => k_is); (case k17 => k_is); (case a18 => k_is); (case l18 => k_is); (case c18 => k_is); (case k18 => k_is); (case a19 => k_is); (case l19 => k_is); (case c19 => k_is); (case k19 => k_is); (case a20 => k_is); (case l20 => k_is); (case c20 => k_is); (case k20 => k_is); (case a21 => k_is); (case l21 => k_is); (case c21 => k_is); (case k21 => k_is); (case a22 => k_is); (case l22 => k_is); (case c22 => k_is); (case k22 => k_is); (case a23 => k_is); (case l23 => k_is); (case c23 => k_is); (case k23 => k_is); (case a24 => k_is); (case l24 => k_is); (case c24 => k_is); (case k24 => k_is); (case a25 => k_is); (case l25 => k_is); (case c25 => k_is); (case k25 => k_is); (case a26 => k_is); (case l26 => k_is); (case c26 => k_is); (case k26 => k_is); (case z1 => k_is); (case z2 => k_is); (case z3 => k_is); (case z4 => k_is); (case z5 => k_is); (case z6 => k_is); (case z7 => k_is); (case z8 => k_is); (case z9 => k_is)
