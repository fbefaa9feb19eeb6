import PyProof.Rows.All
import Wide.All
import OpenK.AllK
import Wide.FinOn
import PyProof.Rows.StrMeet
import PyProof.Rows.TmSorted
import KE.KDictKeyed
import KE.KDictItemsList
import KE.KDictWalk
import KE.KDictCopyH
import HandS.ForMost
import HandS.OwnEq
import HandS.ListItems
import KE.SortData
import HandS.SetFor
import PyProof.InstEq
import HandS.Codes
import KE.SortKeyHeap
import HandS.SortKw
import HandS.SetKeys
import HandS.Deep
import HandS.Defaults
import HandS.IsInst
import HandS.CallLocal
import HandS.Flow
import HandS.Comp
import PySem.Challenge.RW_cellblocks_k69_whole_sheets_of_many_valu
import HandS.Walk
import HandS.HeadHook2
import KE.KStateDown
import HandS.Head0
import HandS.Head1
import HandS.Head2
import HandS.HeadEnd
set_option Elab.async false
set_option linter.all false
set_option maxRecDepth 100000
section
set_option autoImplicit true
/-! the mirror: what the program's defs compute, in plain Lean -/
namespace CBM
abbrev OI := Option Int
/-- a stretch: its first number, its last one or none -/
abbrev Seg := Int × OI
structure Blk where
  t : Int
  l : Int
  b : OI
  r : OI
/-- from f to e -/
def inS (f : Int) (e : OI) (n : Int) : Bool := decide (f ≤ n) && (match e with
  | none => true
  | some m => decide (n ≤ m))
/-- e is none or not below f -/
def okE (f : Int) : OI → Prop
  | none => True
  | some m => f ≤ m
def okS (s : Seg) : Prop := 1 ≤ s.1 ∧ okE s.1 s.2
def okB (b : Blk) : Prop := 1 ≤ b.t ∧ 1 ≤ b.l ∧ okE b.t b.b ∧ okE b.l b.r
def inB (b : Blk) (n c : Int) : Bool := inS b.t b.b n && inS b.l b.r c
/-- insertion into a strictly rising list -/
def insU (x : Int) : List Int → List Int
  | [] => [x]
  | y :: ys => if x < y then x :: y :: ys else if x = y then y :: ys else y :: insU x ys
def sortU : List Int → List Int
  | [] => []
  | x :: xs => insU x (sortU xs)
def strS : List Int → List Seg
  | [] => []
  | [c] => [(c, none)]
  | c :: d :: r => (c, some (d - 1)) :: strS (d :: r)
def stretches (cs : List Int) : List Seg := strS (sortU cs)
def endsP (ends : List Seg) : List Int := ends.filterMap fun e => e.2.map (· + 1)
def cutsOf (ends : List Seg) : List Int := ends.map (·.1) ++ endsP ends
def withRun (runs : List Seg) (f : Int) (e : OI) : List Seg := match runs.getLast? with
  | some q => if q.2 = some (f - 1) then runs.dropLast ++ [(q.1, e)] else runs ++ [(f, e)]
  | none => [(f, e)]
def hasS (one : List Seg) (n : Int) : Bool := one.any fun s => inS s.1 s.2 n
def runsStep (one other : List Seg) (k : Bool → Bool → Bool) (found : List Seg) (s : Seg) : List Seg := if k (hasS one s.1) (hasS other s.1) then withRun found s.1 s.2 else found
def runsBy (one other : List Seg) (k : Bool → Bool → Bool) : List Seg := (stretches (cutsOf (one ++ other))).foldl (runsStep one other k) []
def columnsAt (bs : List Blk) (n : Int) : List Seg := (bs.filter fun b => inS b.t b.b n).map fun b => (b.l, b.r)
structure Band where
  f : Int
  e : OI
  rs : List Seg
def rowsOf (bs : List Blk) : List Seg := bs.map fun b => (b.t, b.b)
def bandOf (one other : List Blk) (k : Bool → Bool → Bool) (s : Seg) : Option Band :=
  if runsBy (columnsAt one s.1) (columnsAt other s.1) k = [] then none else some ⟨s.1, s.2, runsBy (columnsAt one s.1) (columnsAt other s.1) k⟩
def bandsBy (one other : List Blk) (k : Bool → Bool → Bool) : List Band := (stretches (cutsOf (rowsOf (one ++ other)))).filterMap (bandOf one other k)
/-- the runs that are open, each with its first row -/
abbrev Opn := List (Seg × Int)
def mkB (e : OI) (p : Seg × Int) : Blk := ⟨p.2, p.1.1, e, p.1.2⟩
def ends1 (g : Band) (behind : OI) (p : Seg × Int) : Bool := decide (p.1 ∉ g.rs) || decide (behind ≠ some (g.f - 1))
def setd (f : Int) (bg : Opn) (s : Seg) : Opn := if bg.any (fun p => decide (p.1 = s)) then bg else bg ++ [(s, f)]
structure FSt where
  found : List Blk
  begun : Opn
  behind : OI
def fStep (st : FSt) (g : Band) : FSt :=
  ⟨st.found ++ (st.begun.filter (ends1 g st.behind)).map (mkB st.behind), g.rs.foldl (setd g.f) (st.begun.filter fun p => !ends1 g st.behind p), g.e⟩
def fRun (bands : List Band) : FSt := bands.foldl fStep ⟨[], [], some 0⟩
def leB (a b : Blk) : Bool := decide (a.t < b.t ∨ (a.t = b.t ∧ a.l ≤ b.l))
def formOf (bands : List Band) : List Blk := ((fRun bands).found ++ (fRun bands).begun.map (mkB (fRun bands).behind)).mergeSort leB
def byK (one other : List Blk) (k : Bool → Bool → Bool) : List Blk := formOf (bandsBy one other k)
def kOr (a b : Bool) : Bool := a || b
def kAnd (a b : Bool) : Bool := a && b
def kSub (a b : Bool) : Bool := a && !b
def areaOf (bs : List Blk) : List Blk := byK bs [] kOr
def sizeB (b : Blk) : OI := match b.b, b.r with
  | some m, some q => some ((m - b.t + 1) * (q - b.l + 1))
  | _, _ => none
end CBM
end
section
set_option autoImplicit true
/-! strictly rising lists, stretches -/
namespace CBM
abbrev SR (l : List Int) : Prop := l.Pairwise (· < ·)
theorem mem_insU {x y : Int} : ∀ {l : List Int}, y ∈ insU x l ↔ y = x ∨ y ∈ l
  | [] => by simp [insU]
  | z :: l => by
    unfold insU
    split
    · simp
    · split
      · rename_i h
        subst h
        simp
      · rw [List.mem_cons, mem_insU, List.mem_cons]
        constructor
        · rintro (h | h | h) <;> simp [h]
        · rintro (h | h | h) <;> simp [h]
theorem insU_sr {x : Int} : ∀ {l : List Int}, SR l → SR (insU x l)
  | [], _ => by simp [insU, SR]
  | z :: l, h => by
    obtain ⟨h1, h2⟩ := List.pairwise_cons.mp h
    unfold insU
    split
    · rename_i hx
      exact List.pairwise_cons.mpr ⟨fun a ha => by
        rcases List.mem_cons.mp ha with rfl | ha
        · exact hx
        · have := h1 a ha
          omega, h⟩
    · split
      · exact h
      · refine List.pairwise_cons.mpr ⟨fun a ha => ?_, insU_sr h2⟩
        rcases mem_insU.mp ha with rfl | ha
        · omega
        · exact h1 a ha
theorem sortU_sr : ∀ l : List Int, SR (sortU l)
  | [] => List.Pairwise.nil
  | _ :: l => insU_sr (sortU_sr l)
theorem mem_sortU {y : Int} : ∀ {l : List Int}, y ∈ sortU l ↔ y ∈ l
  | [] => by simp [sortU]
  | x :: l => by
    show y ∈ insU x (sortU l) ↔ _
    rw [mem_insU, mem_sortU, List.mem_cons]
theorem sr_ext : ∀ {l m : List Int}, SR l → SR m → (∀ x, x ∈ l ↔ x ∈ m) → l = m
  | [], [], _, _, _ => rfl
  | [], y :: m, _, _, h => by have := (h y).mpr (List.mem_cons_self ..); cases this
  | x :: l, [], _, _, h => by have := (h x).mp (List.mem_cons_self ..); cases this
  | x :: l, y :: m, hl, hm, h => by
    obtain ⟨l1, l2⟩ := List.pairwise_cons.mp hl
    obtain ⟨m1, m2⟩ := List.pairwise_cons.mp hm
    have e : x = y := by
      rcases List.mem_cons.mp ((h x).mp (List.mem_cons_self ..)) with e | h1
      · exact e
      · rcases List.mem_cons.mp ((h y).mpr (List.mem_cons_self ..)) with e | h2
        · exact e.symm
        · have a := l1 y h2
          have b := m1 x h1
          omega
    subst e
    rw [sr_ext l2 m2 fun z => ?_]
    constructor
    · intro hz
      rcases List.mem_cons.mp ((h z).mp (List.mem_cons_of_mem _ hz)) with e | h1
      · have := l1 z hz
        omega
      · exact h1
    · intro hz
      rcases List.mem_cons.mp ((h z).mpr (List.mem_cons_of_mem _ hz)) with e | h1
      · have := m1 z hz
        omega
      · exact h1
theorem sortU_of {l m : List Int} (h1 : l.Pairwise (· ≤ ·)) (h2 : l.Nodup) (h : ∀ x, x ∈ l ↔ x ∈ m) : l = sortU m := by
  refine sr_ext ?_ (sortU_sr m) fun x => by rw [mem_sortU]; exact h x
  have a := List.Pairwise.and h1 h2
  exact a.imp fun {x y} ⟨p, q⟩ => by omega
theorem insU_len (x : Int) : ∀ l : List Int, (insU x l).length ≤ l.length + 1
  | [] => by simp [insU]
  | y :: l => by
    have := insU_len x l
    unfold insU
    split
    · simp
    · split <;> simp <;> omega
theorem sortU_len : ∀ l : List Int, (sortU l).length ≤ l.length
  | [] => Nat.le_refl _
  | x :: l => by
    have h1 := insU_len x (sortU l)
    have h2 := sortU_len l
    show (insU x (sortU l)).length ≤ l.length + 1
    omega
theorem strS_len : ∀ l : List Int, (strS l).length = l.length
  | [] => rfl
  | [_] => rfl
  | c :: d :: r => by
    show (strS (d :: r)).length + 1 = _
    rw [strS_len (d :: r)]
    rfl
theorem strS_get : ∀ (l : List Int) (i : Nat), (strS l)[i]? = l[i]?.map fun c => (c, l[i + 1]?.map (· - 1))
  | [], i => by simp [strS]
  | [c], 0 => by simp [strS]
  | [c], i + 1 => by simp [strS]
  | c :: d :: r, 0 => by simp [strS]
  | c :: d :: r, i + 1 => by
    show (strS (d :: r))[i]? = _
    rw [strS_get (d :: r) i]
    rfl
theorem stretches_len (cs : List Int) : (stretches cs).length ≤ cs.length := by
  unfold stretches
  rw [strS_len]
  exact sortU_len cs
theorem endsP_len (l : List Seg) : (endsP l).length ≤ l.length := List.length_filterMap_le _ _
theorem cutsOf_len (l : List Seg) : (cutsOf l).length ≤ 2 * l.length := by
  have := endsP_len l
  unfold cutsOf
  rw [List.length_append, List.length_map]
  omega
end CBM
end
section
set_option autoImplicit true
/-! what form_of's steps keep -/
namespace CBM
theorem mem_setd {f : Int} {bg : Opn} {s : Seg} {p : Seg × Int} (h : p ∈ setd f bg s) : p ∈ bg ∨ p = (s, f) := by
  unfold setd at h
  split at h
  · exact .inl h
  · rcases List.mem_append.mp h with h | h
    · exact .inl h
    · exact .inr (List.mem_singleton.mp h)
theorem setd_nd {f : Int} {bg : Opn} {s : Seg} (h : (bg.map (·.1)).Nodup) : ((setd f bg s).map (·.1)).Nodup := by
  unfold setd
  split
  · exact h
  · rename_i hn
    rw [List.map_append]
    refine List.nodup_append.mpr ⟨h, by simp, fun a ha b hb => ?_⟩
    obtain rfl : b = s := by simpa using hb
    rintro rfl
    obtain ⟨p, hp, e⟩ := List.mem_map.mp ha
    exact hn (List.any_eq_true.mpr ⟨p, hp, decide_eq_true e⟩)
theorem mem_setds {f : Int} : ∀ {rs : List Seg} {bg : Opn} {p : Seg × Int}, p ∈ rs.foldl (setd f) bg → p ∈ bg ∨ (p.1 ∈ rs ∧ p.2 = f)
  | [], _, _, h => .inl h
  | s :: rs, bg, p, h => by
    rcases mem_setds (rs := rs) (bg := setd f bg s) h with h | ⟨h1, h2⟩
    · rcases mem_setd h with h | rfl
      · exact .inl h
      · exact .inr ⟨List.mem_cons_self .., rfl⟩
    · exact .inr ⟨List.mem_cons_of_mem _ h1, h2⟩
theorem setds_nd {f : Int} : ∀ {rs : List Seg} {bg : Opn}, (bg.map (·.1)).Nodup → ((rs.foldl (setd f) bg).map (·.1)).Nodup
  | [], _, h => h
  | s :: rs, bg, h => setds_nd (rs := rs) (setd_nd h)
theorem setd_len (f : Int) (bg : Opn) (s : Seg) : (setd f bg s).length ≤ bg.length + 1 := by
  unfold setd
  split <;> simp
theorem setds_len (f : Int) : ∀ (rs : List Seg) (bg : Opn), (rs.foldl (setd f) bg).length ≤ bg.length + rs.length
  | [], bg => Nat.le_refl _
  | s :: rs, bg => by
    have h1 := setds_len f rs (setd f bg s)
    have h2 := setd_len f bg s
    show (rs.foldl (setd f) (setd f bg s)).length ≤ bg.length + (rs.length + 1)
    omega
/-- what is asked of the bands -/
structure BandsOk (gs : List Band) : Prop where
  one : ∀ g ∈ gs, 1 ≤ g.f ∧ okE g.f g.e ∧ ∀ s ∈ g.rs, okS s
  next : gs.Pairwise fun g h => ∃ m, g.e = some m ∧ m < h.f
/-- between two bands -/
structure FOk (st : FSt) : Prop where
  found : ∀ b ∈ st.found, okB b
  begun : ∀ p ∈ st.begun, okS p.1 ∧ 1 ≤ p.2 ∧ okE p.2 st.behind
  nd : (st.begun.map (·.1)).Nodup
theorem mkB_ok {e : OI} {p : Seg × Int} (h : okS p.1 ∧ 1 ≤ p.2 ∧ okE p.2 e) : okB (mkB e p) := ⟨h.2.1, h.1.1, h.2.2, h.1.2⟩
theorem fOk_start : FOk ⟨[], [], some 0⟩ := ⟨(fun _ h => nomatch h), (fun _ h => nomatch h), List.nodup_nil⟩
/-- what is behind does not reach the band -/
def Ahead (st : FSt) (f : Int) : Prop := ∃ m, st.behind = some m ∧ m < f
theorem fOk_step {st : FSt} {g : Band} (h : FOk st) (hg : 1 ≤ g.f ∧ okE g.f g.e ∧ ∀ s ∈ g.rs, okS s) (ha : Ahead st g.f) : FOk (fStep st g) := by
  obtain ⟨m, hm, hmf⟩ := ha
  refine ⟨fun b hb => ?_, fun p hp => ?_, ?_⟩
  · rcases List.mem_append.mp hb with hb | hb
    · exact h.found b hb
    · obtain ⟨p, hp, rfl⟩ := List.mem_map.mp hb
      exact mkB_ok (h.begun p (List.mem_filter.mp hp).1)
  · show okS p.1 ∧ 1 ≤ p.2 ∧ okE p.2 g.e
    rcases mem_setds hp with hp | ⟨h1, h2⟩
    · have q := h.begun p (List.mem_filter.mp hp).1
      refine ⟨q.1, q.2.1, ?_⟩
      have q3 := q.2.2
      rw [hm] at q3
      have q3' : p.2 ≤ m := q3
      have q4 := hg.2.1
      cases e : g.e with
      | none => trivial
      | some n =>
        rw [e] at q4
        have q4' : g.f ≤ n := q4
        show p.2 ≤ n
        omega
    · rw [h2]
      exact ⟨hg.2.2 _ h1, hg.1, hg.2.1⟩
  · refine setds_nd ?_
    exact List.Nodup.sublist ((List.filter_sublist (l := st.begun)).map _) h.nd
theorem fStep_len (st : FSt) (g : Band) : (fStep st g).found.length + (fStep st g).begun.length ≤ st.found.length + st.begun.length + g.rs.length := by
  have h1 := setds_len g.f g.rs (st.begun.filter fun p => !ends1 g st.behind p)
  have h2 : (st.begun.filter (ends1 g st.behind)).length + (st.begun.filter fun p => !ends1 g st.behind p).length = st.begun.length := by
    generalize st.begun = l
    induction l with
    | nil => rfl
    | cons a l ih =>
      rw [List.filter_cons, List.filter_cons]
      cases ends1 g st.behind a <;> simp <;> omega
  show (st.found ++ (st.begun.filter (ends1 g st.behind)).map (mkB st.behind)).length + _ ≤ _
  rw [List.length_append, List.length_map]
  show _ + (g.rs.foldl (setd g.f) (st.begun.filter fun p => !ends1 g st.behind p)).length ≤ _
  omega
def runsN (gs : List Band) : Nat := (gs.map fun g => g.rs.length).sum
theorem fFold_len : ∀ (gs : List Band) (st : FSt), (gs.foldl fStep st).found.length + (gs.foldl fStep st).begun.length ≤ st.found.length + st.begun.length + runsN gs
  | [], st => Nat.le_refl _
  | g :: gs, st => by
    have h1 := fFold_len gs (fStep st g)
    have h2 := fStep_len st g
    show _ ≤ _ + (g.rs.length + runsN gs)
    show (gs.foldl fStep (fStep st g)).found.length + (gs.foldl fStep (fStep st g)).begun.length ≤ _
    omega
theorem runsN_take (gs : List Band) (i : Nat) : runsN (gs.take i) ≤ runsN gs := by
  have h : runsN gs = runsN (gs.take i) + runsN (gs.drop i) := by
    conv => lhs; rw [← List.take_append_drop i gs]
    unfold runsN
    rw [List.map_append, List.sum_append]
  omega
theorem runsN_one : ∀ {gs : List Band} {g : Band}, g ∈ gs → g.rs.length ≤ runsN gs
  | h :: gs, g, hm => by
    show g.rs.length ≤ h.rs.length + runsN gs
    rcases List.mem_cons.mp hm with rfl | hm
    · omega
    · have := runsN_one hm
      omega
abbrev fTake (gs : List Band) (i : Nat) : FSt := (gs.take i).foldl fStep ⟨[], [], some 0⟩
theorem fTake_succ {gs : List Band} {i : Nat} {g : Band} (h : gs[i]? = some g) : fTake gs (i + 1) = fStep (fTake gs i) g := by
  unfold fTake
  rw [List.take_add_one, h, Option.toList_some, List.foldl_append]
  rfl
theorem fTake_ahead {gs : List Band} (ok : BandsOk gs) : ∀ {i : Nat} {g : Band}, gs[i]? = some g → Ahead (fTake gs i) g.f
  | 0, g, h => ⟨0, rfl, by have := (ok.one g (List.mem_of_getElem? h)).1; omega⟩
  | i + 1, g, h => by
    have hl : i + 1 < gs.length := (List.getElem?_eq_some_iff.mp h).1
    have hi : gs[i]? = some gs[i] := List.getElem?_eq_getElem (by omega)
    rw [fTake_succ hi]
    have hp := List.pairwise_iff_getElem.mp ok.next i (i + 1) (by omega) hl (by omega)
    rw [List.getElem?_eq_getElem hl] at h
    cases h
    exact hp
theorem fTake_ok {gs : List Band} (ok : BandsOk gs) : ∀ {i : Nat}, i ≤ gs.length → FOk (fTake gs i)
  | 0, _ => fOk_start
  | i + 1, h => by
    have hi : gs[i]? = some gs[i] := List.getElem?_eq_getElem (by omega)
    rw [fTake_succ hi]
    exact fOk_step (fTake_ok ok (by omega)) (ok.one _ (List.getElem_mem _)) (fTake_ahead ok hi)
theorem fTake_len (gs : List Band) (i : Nat) : (fTake gs i).found.length + (fTake gs i).begun.length ≤ runsN gs := by
  have h1 := fFold_len (gs.take i) ⟨[], [], some 0⟩
  have h2 := runsN_take gs i
  simp at h1
  unfold fTake
  omega
/-- one key is taken out of what is left -/
theorem pop_left {bg : Opn} {e : Seg × Int → Bool} {j : Nat} {p : Seg × Int} (nd : (bg.map (·.1)).Nodup) (h : bg[j]? = some p) (hp : e p = true) :
    ((bg.take j).filter (fun q => !e q) ++ bg.drop j).filter (fun q => decide (q.1 ≠ p.1)) = (bg.take (j + 1)).filter (fun q => !e q) ++ bg.drop (j + 1) := by
  have hl : j < bg.length := (List.getElem?_eq_some_iff.mp h).1
  have hd : bg.drop j = p :: bg.drop (j + 1) := by
    rw [List.getElem?_eq_getElem hl] at h
    cases h
    exact (List.drop_eq_getElem_cons hl)
  have hsp : bg = bg.take j ++ (p :: bg.drop (j + 1)) := by rw [← hd, List.take_append_drop]
  have nd2 := nd
  rw [hsp, List.map_append, List.map_cons] at nd2
  obtain ⟨n1, n2, n3⟩ := List.nodup_append.mp nd2
  have h1 : ((bg.take j).filter (fun q => !e q)).filter (fun q => decide (q.1 ≠ p.1)) = (bg.take j).filter (fun q => !e q) := List.filter_eq_self.mpr fun q hq => by
    have hq2 := (List.mem_filter.mp hq).1
    exact decide_eq_true fun z => n3 q.1 (List.mem_map.mpr ⟨q, hq2, rfl⟩) p.1 (List.mem_cons_self ..) z
  have h2 : (bg.drop (j + 1)).filter (fun q => decide (q.1 ≠ p.1)) = bg.drop (j + 1) := List.filter_eq_self.mpr fun q hq =>
    decide_eq_true fun z => (List.nodup_cons.mp n2).1 (List.mem_map.mpr ⟨q, hq, z⟩)
  rw [List.filter_append, h1, hd, List.filter_cons, if_neg (by simp), h2, List.take_add_one, h, Option.toList_some, List.filter_append]
  simp [hp]
theorem keep_left {bg : Opn} {e : Seg × Int → Bool} {j : Nat} {p : Seg × Int} (h : bg[j]? = some p) (hp : e p = false) :
    (bg.take j).filter (fun q => !e q) ++ bg.drop j = (bg.take (j + 1)).filter (fun q => !e q) ++ bg.drop (j + 1) := by
  have hl : j < bg.length := (List.getElem?_eq_some_iff.mp h).1
  have hd : bg.drop j = p :: bg.drop (j + 1) := by
    rw [List.getElem?_eq_getElem hl] at h
    cases h
    exact (List.drop_eq_getElem_cons hl)
  rw [hd, List.take_add_one, h, Option.toList_some, List.filter_append]
  simp [hp]
theorem find_left {bg : Opn} {e : Seg × Int → Bool} {j : Nat} {p : Seg × Int} (nd : (bg.map (·.1)).Nodup) (h : bg[j]? = some p) : ((bg.take j).filter (fun q => !e q) ++ bg.drop j).find? (fun q => decide (q.1 = p.1)) = some p := by
  have hl : j < bg.length := (List.getElem?_eq_some_iff.mp h).1
  have hd : bg.drop j = p :: bg.drop (j + 1) := by
    rw [List.getElem?_eq_getElem hl] at h
    cases h
    exact (List.drop_eq_getElem_cons hl)
  have hsp : bg = bg.take j ++ (p :: bg.drop (j + 1)) := by rw [← hd, List.take_append_drop]
  have nd2 := nd
  rw [hsp, List.map_append, List.map_cons] at nd2
  obtain ⟨n1, n2, n3⟩ := List.nodup_append.mp nd2
  have h1 : ((bg.take j).filter (fun q => !e q)).find? (fun q => decide (q.1 = p.1)) = none := List.find?_eq_none.mpr fun q hq => by
    have hq2 := (List.mem_filter.mp hq).1
    have := n3 q.1 (List.mem_map.mpr ⟨q, hq2, rfl⟩) p.1 (List.mem_cons_self ..)
    simpa using this
  rw [List.find?_append, h1, hd, List.find?_cons]
  simp
end CBM
end
section
set_option autoImplicit true
/-! sizes, validity: blocks whose ends stand on a grid -/
namespace CBM
theorem nodup_le : ∀ {l m : List Int}, l.Nodup → (∀ x ∈ l, x ∈ m) → l.length ≤ m.length
  | [], _, _, _ => Nat.zero_le _
  | x :: l, m, h, hs => by
    obtain ⟨h1, h2⟩ := List.nodup_cons.mp h
    have hx := hs x (List.mem_cons_self ..)
    have h3 : ∀ y ∈ l, y ∈ m.erase x := fun y hy => (List.mem_erase_of_ne (fun e => h1 (by rw [← e]; exact hy))).mpr (hs y (List.mem_cons_of_mem _ hy))
    have h4 := nodup_le h2 h3
    have h5 := List.length_erase_of_mem hx
    have h6 : 0 < m.length := List.length_pos_of_mem hx
    rw [List.length_cons]
    omega
theorem sr_nodup {l : List Int} (h : SR l) : l.Nodup := h.imp fun {a b} q => by omega
theorem strS_mem : ∀ {l : List Int}, SR l → ∀ s ∈ strS l, s.1 ∈ l ∧ okE s.1 s.2 ∧ ∀ m, s.2 = some m → m + 1 ∈ l
  | [], _, s, hs => by cases hs
  | [c], _, s, hs => by
    obtain rfl := List.mem_singleton.mp hs
    exact ⟨List.mem_singleton.mpr rfl, trivial, fun m e => nomatch e⟩
  | c :: d :: r, h, s, hs => by
    obtain ⟨h1, h2⟩ := List.pairwise_cons.mp h
    rcases List.mem_cons.mp hs with rfl | hs
    · have := h1 d (List.mem_cons_self ..)
      refine ⟨List.mem_cons_self .., ?_, fun m e => ?_⟩
      · show c ≤ d - 1
        omega
      · have e' : d - 1 = m := Option.some.inj e
        have : m + 1 = d := by omega
        rw [this]
        exact List.mem_cons_of_mem _ (List.mem_cons_self ..)
    · have q := strS_mem h2 s hs
      exact ⟨List.mem_cons_of_mem _ q.1, q.2.1, fun m e => List.mem_cons_of_mem _ (q.2.2 m e)⟩
theorem strS_next : ∀ {l : List Int}, SR l → (strS l).Pairwise fun s t => ∃ m, s.2 = some m ∧ m < t.1
  | [], _ => List.Pairwise.nil
  | [c], _ => List.pairwise_singleton _ _
  | c :: d :: r, h => by
    obtain ⟨h1, h2⟩ := List.pairwise_cons.mp h
    refine List.pairwise_cons.mpr ⟨fun t ht => ⟨d - 1, rfl, ?_⟩, strS_next h2⟩
    have q := (strS_mem h2 t ht).1
    rcases List.mem_cons.mp q with e | q
    · omega
    · have := (List.pairwise_cons.mp h2).1 t.1 q
      omega
def RunOk (cs : List Int) (s : Seg) : Prop := s.1 ∈ cs ∧ okS s ∧ ∀ m, s.2 = some m → m + 1 ∈ cs
theorem endsP_mem {ss : List Seg} {n : Int} : n ∈ endsP ss ↔ ∃ s ∈ ss, ∃ m, s.2 = some m ∧ n = m + 1 := by
  unfold endsP
  rw [List.mem_filterMap]
  constructor
  · rintro ⟨s, hs, e⟩
    cases h : s.2 with
    | none =>
      rw [h] at e
      cases e
    | some m =>
      rw [h] at e
      exact ⟨s, hs, m, h, (Option.some.inj e).symm⟩
  · rintro ⟨s, hs, m, h, rfl⟩
    exact ⟨s, hs, by rw [h]; rfl⟩
theorem cutsOf_mem {ss : List Seg} {n : Int} : n ∈ cutsOf ss ↔ (∃ s ∈ ss, n = s.1) ∨ ∃ s ∈ ss, ∃ m, s.2 = some m ∧ n = m + 1 := by
  unfold cutsOf
  rw [List.mem_append, endsP_mem, List.mem_map]
  constructor
  · rintro (⟨s, hs, e⟩ | h)
    · exact .inl ⟨s, hs, e.symm⟩
    · exact .inr h
  · rintro (⟨s, hs, e⟩ | h)
    · exact .inl ⟨s, hs, e.symm⟩
    · exact .inr h
theorem cuts_fit {cs : List Int} {ss : List Seg} (h : ∀ s ∈ ss, RunOk cs s) : ∀ n ∈ cutsOf ss, n ∈ cs ∧ 1 ≤ n := fun n hn => by
  rcases cutsOf_mem.mp hn with ⟨s, hs, rfl⟩ | ⟨s, hs, m, hm, rfl⟩
  · exact ⟨(h s hs).1, (h s hs).2.1.1⟩
  · refine ⟨(h s hs).2.2 m hm, ?_⟩
    have h1 := (h s hs).2.1
    unfold okS at h1
    rw [hm] at h1
    have h2 : s.1 ≤ m := h1.2
    have h3 : 1 ≤ s.1 := h1.1
    omega
theorem stretches_fit {cs : List Int} {ss : List Seg} (h : ∀ s ∈ ss, RunOk cs s) : ∀ s ∈ stretches (cutsOf ss), RunOk cs s := fun s hs => by
  have q := strS_mem (sortU_sr (cutsOf ss)) s hs
  have hc := cuts_fit h s.1 (mem_sortU.mp q.1)
  exact ⟨hc.1, ⟨hc.2, q.2.1⟩, fun m e => (cuts_fit h _ (mem_sortU.mp (q.2.2 m e))).1⟩
theorem stretches_le {cs : List Int} {ss : List Seg} (h : ∀ s ∈ ss, RunOk cs s) : (stretches (cutsOf ss)).length ≤ cs.length := by
  unfold stretches
  rw [strS_len]
  exact nodup_le (sr_nodup (sortU_sr _)) fun x hx => (cuts_fit h x (mem_sortU.mp hx)).1
theorem withRun_cases (l : List Seg) (f : Int) (e : OI) : (∃ l' q, l = l' ++ [q] ∧ q.2 = some (f - 1) ∧ withRun l f e = l' ++ [(q.1, e)]) ∨ withRun l f e = l ++ [(f, e)] := by
  rcases List.eq_nil_or_concat l with rfl | ⟨l', q, rfl⟩
  · exact .inr rfl
  · rw [List.concat_eq_append]
    unfold withRun
    rw [List.getLast?_append]
    simp only [List.getLast?_singleton, Option.some_or, List.dropLast_concat]
    by_cases h : q.2 = some (f - 1)
    · exact .inl ⟨l', q, rfl, h, by rw [if_pos h]⟩
    · exact .inr (by rw [if_neg h])
theorem withRun_fit {cs : List Int} {l : List Seg} {s : Seg} (h : ∀ q ∈ l, RunOk cs q) (hs : RunOk cs s) : ∀ q ∈ withRun l s.1 s.2, RunOk cs q := fun x hx => by
  rcases withRun_cases l s.1 s.2 with ⟨l', q, rfl, hq, e⟩ | e
  · rw [e] at hx
    rcases List.mem_append.mp hx with hx | hx
    · exact h x (List.mem_append_left _ hx)
    · obtain rfl := List.mem_singleton.mp hx
      have hqq := h q (List.mem_append_right _ (List.mem_singleton.mpr rfl))
      refine ⟨hqq.1, ⟨hqq.2.1.1, ?_⟩, hs.2.2⟩
      have h1 := hqq.2.1
      unfold okS at h1
      rw [hq] at h1
      have h2 : q.1 ≤ s.1 - 1 := h1.2
      have h3 := hs.2.1.2
      show okE q.1 s.2
      cases e2 : s.2 with
      | none => trivial
      | some m =>
        rw [e2] at h3
        have h3' : s.1 ≤ m := h3
        show q.1 ≤ m
        omega
  · rw [e] at hx
    rcases List.mem_append.mp hx with hx | hx
    · exact h x hx
    · obtain rfl := List.mem_singleton.mp hx
      exact hs
theorem withRun_le (l : List Seg) (f : Int) (e : OI) : (withRun l f e).length ≤ l.length + 1 := by
  rcases withRun_cases l f e with ⟨l', q, rfl, _, e⟩ | e <;> rw [e] <;> simp
theorem runsFold_fit {cs : List Int} {one other : List Seg} {k : Bool → Bool → Bool} : ∀ {ss acc : List Seg}, (∀ s ∈ ss, RunOk cs s) → (∀ q ∈ acc, RunOk cs q) → (∀ q ∈ ss.foldl (runsStep one other k) acc, RunOk cs q) ∧ (ss.foldl (runsStep one other k) acc).length ≤ acc.length + ss.length
  | [], acc, _, h => ⟨h, Nat.le_refl _⟩
  | s :: ss, acc, hs, h => by
    have h0 : (∀ q ∈ runsStep one other k acc s, RunOk cs q) ∧ (runsStep one other k acc s).length ≤ acc.length + 1 := by
      unfold runsStep
      split
      · exact ⟨withRun_fit h (hs s (List.mem_cons_self ..)), withRun_le _ _ _⟩
      · exact ⟨h, Nat.le_succ _⟩
    have h1 := runsFold_fit (one := one) (other := other) (k := k) (ss := ss) (acc := runsStep one other k acc s) (fun q hq => hs q (List.mem_cons_of_mem _ hq)) h0.1
    refine ⟨h1.1, ?_⟩
    have := h1.2
    have := h0.2
    show (ss.foldl (runsStep one other k) (runsStep one other k acc s)).length ≤ acc.length + (ss.length + 1)
    omega
theorem runsBy_fit {cs : List Int} {one other : List Seg} {k : Bool → Bool → Bool} (h1 : ∀ s ∈ one, RunOk cs s) (h2 : ∀ s ∈ other, RunOk cs s) : (∀ q ∈ runsBy one other k, RunOk cs q) ∧ (runsBy one other k).length ≤ cs.length := by
  have h : ∀ s ∈ one ++ other, RunOk cs s := fun s hs => (List.mem_append.mp hs).elim (h1 s) (h2 s)
  have q := runsFold_fit (one := one) (other := other) (k := k) (acc := []) (stretches_fit h) (fun _ z => nomatch z)
  refine ⟨q.1, ?_⟩
  have := q.2
  have := stretches_le h
  unfold runsBy
  simp at *
  omega
/-- a block on the grid -/
structure Fit (rs cs : List Int) (b : Blk) : Prop where
  rows : RunOk rs (b.t, b.b)
  cols : RunOk cs (b.l, b.r)
theorem Fit.ok {rs cs : List Int} {b : Blk} (h : Fit rs cs b) : okB b := ⟨h.rows.2.1.1, h.cols.2.1.1, h.rows.2.1.2, h.cols.2.1.2⟩
def Fits (rs cs : List Int) (bs : List Blk) : Prop := ∀ b ∈ bs, Fit rs cs b
theorem cols_fit {rs cs : List Int} {bs : List Blk} (h : Fits rs cs bs) (n : Int) : ∀ s ∈ columnsAt bs n, RunOk cs s := fun s hs => by
  obtain ⟨b, hb, rfl⟩ := List.mem_map.mp hs
  exact (h b (List.mem_filter.mp hb).1).cols
theorem rows_fit {rs cs : List Int} {bs : List Blk} (h : Fits rs cs bs) : ∀ s ∈ rowsOf bs, RunOk rs s := fun s hs => by
  obtain ⟨b, hb, rfl⟩ := List.mem_map.mp hs
  exact (h b hb).rows
theorem Fits.app {rs cs : List Int} {bs cs' : List Blk} (h : Fits rs cs bs) (h' : Fits rs cs cs') : Fits rs cs (bs ++ cs') := fun b hb => (List.mem_append.mp hb).elim (h b) (h' b)
section
variable {rs cs : List Int} {one other : List Blk} {k : Bool → Bool → Bool}
theorem bandOf_eq {s : Seg} {g : Band} (h : bandOf one other k s = some g) : g = ⟨s.1, s.2, runsBy (columnsAt one s.1) (columnsAt other s.1) k⟩ ∧ g.rs ≠ [] := by
  unfold bandOf at h
  split at h
  · cases h
  · have e := (Option.some.inj h).symm
    exact ⟨e, by rw [e]; assumption⟩
theorem bands_fit (h1 : Fits rs cs one) (h2 : Fits rs cs other) : BandsOk (bandsBy one other k) ∧ (∀ g ∈ bandsBy one other k, RunOk rs (g.f, g.e) ∧ (∀ s ∈ g.rs, RunOk cs s) ∧ g.rs.length ≤ cs.length) ∧ (bandsBy one other k).length ≤ rs.length := by
  have hr := rows_fit (h1.app h2)
  have sf := stretches_fit hr
  have hall : ∀ g ∈ bandsBy one other k, RunOk rs (g.f, g.e) ∧ (∀ s ∈ g.rs, RunOk cs s) ∧ g.rs.length ≤ cs.length := fun g hg => by
    obtain ⟨s, hs, e⟩ := List.mem_filterMap.mp hg
    obtain ⟨rfl, _⟩ := bandOf_eq e
    have q := runsBy_fit (k := k) (cols_fit h1 s.1) (cols_fit h2 s.1)
    exact ⟨sf s hs, q.1, q.2⟩
  refine ⟨⟨fun g hg => ?_, ?_⟩, hall, ?_⟩
  · have q := hall g hg
    exact ⟨q.1.2.1.1, q.1.2.1.2, fun s hs => (q.2.1 s hs).2.1⟩
  · have hp := strS_next (sortU_sr (cutsOf (rowsOf (one ++ other))))
    refine List.Pairwise.filterMap _ (fun s t hst g hg g' hg' => ?_) hp
    obtain ⟨rfl, _⟩ := bandOf_eq hg
    obtain ⟨rfl, _⟩ := bandOf_eq hg'
    exact hst
  · exact Nat.le_trans (List.length_filterMap_le _ _) (stretches_le hr)
theorem runsN_le {gs : List Band} {n : Nat} (h : ∀ g ∈ gs, g.rs.length ≤ n) : runsN gs ≤ gs.length * n := by
  induction gs with
  | nil => simp [runsN]
  | cons g gs ih =>
    have h1 := h g (List.mem_cons_self ..)
    have h2 := ih fun q hq => h q (List.mem_cons_of_mem _ hq)
    show g.rs.length + runsN gs ≤ (gs.length + 1) * n
    rw [Nat.succ_mul]
    omega
structure FFit (rs cs : List Int) (st : FSt) : Prop where
  found : Fits rs cs st.found
  begun : ∀ p ∈ st.begun, RunOk cs p.1 ∧ RunOk rs (p.2, st.behind)
theorem fFit_step {st : FSt} {g : Band} (h : FFit rs cs st) (hg : RunOk rs (g.f, g.e) ∧ ∀ s ∈ g.rs, RunOk cs s) (ha : Ahead st g.f) : FFit rs cs (fStep st g) := by
  obtain ⟨m, hm, hmf⟩ := ha
  refine ⟨fun b hb => ?_, fun p hp => ?_⟩
  · rcases List.mem_append.mp hb with hb | hb
    · exact h.found b hb
    · obtain ⟨p, hp, rfl⟩ := List.mem_map.mp hb
      have q := h.begun p (List.mem_filter.mp hp).1
      exact ⟨q.2, q.1⟩
  · show RunOk cs p.1 ∧ RunOk rs (p.2, g.e)
    rcases mem_setds hp with hp | ⟨h1, h2⟩
    · have q := h.begun p (List.mem_filter.mp hp).1
      refine ⟨q.1, q.2.1, ⟨q.2.2.1.1, ?_⟩, hg.1.2.2⟩
      have q3 := q.2.2.1.2
      rw [hm] at q3
      have q3' : p.2 ≤ m := q3
      have q4 := hg.1.2.1.2
      show okE p.2 g.e
      cases e : g.e with
      | none => trivial
      | some n =>
        rw [e] at q4
        have q4' : g.f ≤ n := q4
        show p.2 ≤ n
        omega
    · rw [h2]
      exact ⟨hg.2 _ h1, hg.1⟩
theorem fTake_fit {gs : List Band} (ok : BandsOk gs) (h : ∀ g ∈ gs, RunOk rs (g.f, g.e) ∧ ∀ s ∈ g.rs, RunOk cs s) : ∀ {i : Nat}, i ≤ gs.length → FFit rs cs (fTake gs i)
  | 0, _ => ⟨(fun _ z => nomatch z), (fun _ z => nomatch z)⟩
  | i + 1, hi => by
    have hg : gs[i]? = some gs[i] := List.getElem?_eq_getElem (by omega)
    rw [fTake_succ hg]
    exact fFit_step (fTake_fit ok h (by omega)) (h _ (List.getElem_mem _)) (fTake_ahead ok hg)
theorem fTake_all (gs : List Band) : fTake gs gs.length = fRun gs := by
  unfold fTake fRun
  rw [List.take_of_length_le (Nat.le_refl _)]
/-- what one needs to know of two lists on a grid -/
theorem byK_fit (h1 : Fits rs cs one) (h2 : Fits rs cs other) (z1 : rs.length ≤ 20) (z2 : cs.length ≤ 20) :
    BandsOk (bandsBy one other k) ∧ (bandsBy one other k).length ≤ 5000 ∧ runsN (bandsBy one other k) ≤ 400 ∧ Fits rs cs (byK one other k) ∧ (byK one other k).length ≤ 400 := by
  obtain ⟨a, b, c⟩ := bands_fit (k := k) h1 h2
  have hr : runsN (bandsBy one other k) ≤ 400 := by
    have q := runsN_le (gs := bandsBy one other k) (n := cs.length) fun g hg => (b g hg).2.2
    have : (bandsBy one other k).length * cs.length ≤ 20 * 20 := Nat.mul_le_mul (by omega) z2
    omega
  have ff := fTake_fit a (fun g hg => ⟨(b g hg).1, (b g hg).2.1⟩) (Nat.le_refl _)
  have fl := fTake_len (bandsBy one other k) (bandsBy one other k).length
  rw [fTake_all] at ff fl
  refine ⟨a, by omega, hr, fun x hx => ?_, ?_⟩
  · unfold byK formOf at hx
    rw [List.mem_mergeSort] at hx
    rcases List.mem_append.mp hx with hx | hx
    · exact ff.found x hx
    · obtain ⟨p, hp, rfl⟩ := List.mem_map.mp hx
      have q := ff.begun p hp
      exact ⟨q.2, q.1⟩
  · unfold byK formOf
    rw [List.length_mergeSort, List.length_append, List.length_map]
    omega
end
end CBM
end
section
set_option autoImplicit true
/-! a sheet as a list of values with their forms -/
namespace CBM
abbrev Txt := PySem.Str
abbrev Held := List (Txt × List Blk)
def getH (h : Held) (v : Txt) : Option (List Blk) := (h.find? fun p => decide (p.1 = v)).map (·.2)
def putH (h : Held) (v : Txt) (bs : List Blk) : Held := if (h.any fun p => decide (p.1 = v)) = true then h.map (fun p => if p.1 = v then (p.1, bs) else p) else h ++ [(v, bs)]
def areaK (one other : List Blk) (k : Bool → Bool → Bool) : List Blk := areaOf (byK one other k)
def holdH (h : Held) : Held := h.filter fun p => !p.2.isEmpty
def fillH (h : Held) (bs : List Blk) (v : Txt) : Held :=
  holdH (putH (h.map fun p => (p.1, areaK p.2 bs kSub)) v (areaK ((getH (h.map fun p => (p.1, areaK p.2 bs kSub)) v).getD (areaOf [])) bs kOr))
def newH : Held := [(PySem.Str.ofString "", areaOf [⟨1, 1, none, none⟩])]
def keysH (h : Held) : List Txt := h.map (·.1)
theorem areaOf_nil : areaOf [] = [] := by
  unfold areaOf byK formOf
  show (([] : List Blk) ++ []).mergeSort leB = []
  simp
end CBM
namespace CBM
/-- the parts of a sheet, ahead of the sort -/
def partsH (h : Held) : List (Blk × Txt) := (h.filter fun p => !decide (p.1 = PySem.Str.ofString "")).flatMap fun p => p.2.map fun b => (b, p.1)
def leP (a b : Blk × Txt) : Bool := decide (a.1.t < b.1.t ∨ (a.1.t = b.1.t ∧ a.1.l ≤ b.1.l))
def pairsH (h : Held) : List (Blk × Txt) := (partsH h).mergeSort leP
end CBM
end
section
set_option autoImplicit true
/-! texts in order; what is unlike in two sheets -/
namespace CBM
def leT (a b : Txt) : Prop := a.cps.toList ≤ b.cps.toList
instance (a b : Txt) : Decidable (leT a b) := inferInstanceAs (Decidable (a.cps.toList ≤ b.cps.toList))
def sortT (l : List Txt) : List Txt := l.mergeSort fun a b => decide (leT a b)
theorem leT_antisymm {a b : Txt} (h1 : leT a b) (h2 : leT b a) : a = b := by
  have e : a.cps.toList = b.cps.toList := List.le_antisymm h1 h2
  cases a
  cases b
  have e2 := Array.toList_inj.mp e
  simp at e2
  rw [e2]
theorem leT_trans {a b c : Txt} (h1 : leT a b) (h2 : leT b c) : leT a c := List.le_trans h1 h2
theorem leT_total (a b : Txt) : leT a b ∨ leT b a := List.le_total _ _
theorem sortT_pw (l : List Txt) : (sortT l).Pairwise leT := by
  have h := List.pairwise_mergeSort (le := fun a b : Txt => decide (leT a b)) (fun a b c h1 h2 => decide_eq_true (leT_trans (of_decide_eq_true h1) (of_decide_eq_true h2))) (fun a b => by
    rcases leT_total a b with h | h
    · simp [h]
    · simp [h]) l
  exact h.imp fun h => of_decide_eq_true h
theorem sortT_perm (l : List Txt) : (sortT l).Perm l := List.mergeSort_perm _ _
theorem sortT_of {ys ks : List Txt} (p : ys.Perm ks) (h : ys.Pairwise leT) : ys = sortT ks :=
  List.Perm.eq_of_pairwise (fun a b _ _ h1 h2 => leT_antisymm h1 h2) h (sortT_pw ks) (p.trans (sortT_perm ks).symm)
theorem rising_pw : ∀ {l : List Txt} {p : Txt}, PyProof.Rows.risingS p l = true → (p :: l).Pairwise leT
  | [], p, _ => List.pairwise_singleton _ _
  | x :: r, p, h => by
    have h' : (!PySem.Spec.ltCps x.cps.toList p.cps.toList && PyProof.Rows.risingS x r) = true := h
    rw [Bool.and_eq_true] at h'
    have h1 : leT p x := by
      have q := h'.1
      rw [PyProof.Rows.ltCps_eq] at q
      have q2 : ¬ x.cps.toList < p.cps.toList := by simpa using q
      exact List.not_lt.mp q2
    have ih := rising_pw h'.2
    refine List.pairwise_cons.mpr ⟨fun y hy => ?_, ih⟩
    rcases List.mem_cons.mp hy with rfl | hy
    · exact h1
    · exact leT_trans h1 ((List.pairwise_cons.mp ih).1 y hy)
theorem sortedS_pw {l : List Txt} (h : PyProof.Rows.sortedS l = true) : l.Pairwise leT := by
  cases l with
  | nil => exact List.Pairwise.nil
  | cons x r => exact rising_pw h
abbrev Tri := Blk × Txt × Txt
def whereH (h : Held) (v : Txt) : List Blk := (getH h v).getD []
def unlA (h1 h2 : Held) (v : Txt) : List Blk := areaK (whereH h1 v) (whereH h2 v) kSub
def inU (h2 : Held) (v : Txt) (rest : List Blk) (s : Txt) : List Tri := if s ≠ v ∧ rest ≠ [] then (areaK rest (whereH h2 s) kAnd).map fun b => (b, v, s) else []
def unlikeP (h1 h2 : Held) : List Tri := (sortT (keysH h1)).flatMap fun v => (sortT (keysH h2)).flatMap (inU h2 v (unlA h1 h2 v))
def le3 (a b : Tri) : Bool := decide (a.1.t < b.1.t ∨ (a.1.t = b.1.t ∧ a.1.l ≤ b.1.l))
def unlikeH (h1 h2 : Held) : List Tri := (unlikeP h1 h2).mergeSort le3
theorem fm_len {α β : Type} {f : α → List β} {n : Nat} : ∀ {l : List α}, (∀ x ∈ l, (f x).length ≤ n) → (l.flatMap f).length ≤ l.length * n
  | [], _ => by simp
  | x :: l, h => by
    have h1 := h x (List.mem_cons_self ..)
    have h2 := fm_len (l := l) fun y hy => h y (List.mem_cons_of_mem _ hy)
    rw [List.flatMap_cons, List.length_append, List.length_cons, Nat.succ_mul]
    omega
end CBM
end
section
set_option autoImplicit true
/-! the law's own functions -/
namespace CBM
def rowBlks (v : Txt) (n c : Int) : List Txt → List Blk
  | [] => []
  | x :: r => (if x = v then [⟨n, c, some n, some c⟩] else []) ++ rowBlks v n (c + 1) r
def tabBlks (v : Txt) (n c : Int) : List (List Txt) → List Blk
  | [] => []
  | row :: t => rowBlks v n c row ++ tabBlks v (n + 1) c t
theorem rowBlks_snoc {v : Txt} {n : Int} {x : Txt} : ∀ {l : List Txt} {c : Int}, rowBlks v n c (l ++ [x]) = rowBlks v n c l ++ (if x = v then [⟨n, c + l.length, some n, some (c + l.length)⟩] else [])
  | [], c => by simp [rowBlks]
  | y :: l, c => by
    show (if y = v then _ else []) ++ rowBlks v n (c + 1) (l ++ [x]) = ((if y = v then _ else []) ++ rowBlks v n (c + 1) l) ++ _
    rw [rowBlks_snoc, List.append_assoc]
    have e : c + 1 + (l.length : Int) = c + ((y :: l).length : Int) := by
      rw [List.length_cons]
      omega
    rw [e]
theorem tabBlks_snoc {v : Txt} {c : Int} {x : List Txt} : ∀ {l : List (List Txt)} {n : Int}, tabBlks v n c (l ++ [x]) = tabBlks v n c l ++ rowBlks v (n + l.length) c x
  | [], n => by simp [tabBlks]
  | y :: l, n => by
    show rowBlks v n c y ++ tabBlks v (n + 1) c (l ++ [x]) = (rowBlks v n c y ++ tabBlks v (n + 1) c l) ++ _
    rw [tabBlks_snoc, List.append_assoc]
    have e : n + 1 + (l.length : Int) = n + ((y :: l).length : Int) := by
      rw [List.length_cons]
      omega
    rw [e]
theorem rowBlks_len (v : Txt) (n : Int) : ∀ (l : List Txt) (c : Int), (rowBlks v n c l).length ≤ l.length
  | [], _ => Nat.le_refl _
  | x :: l, c => by
    have := rowBlks_len v n l (c + 1)
    show ((if x = v then _ else []) ++ rowBlks v n (c + 1) l).length ≤ l.length + 1
    rw [List.length_append]
    split
    · simp; omega
    · simp; omega
theorem tabBlks_len (v : Txt) (c : Int) {k : Nat} : ∀ {t : List (List Txt)} {n : Int}, (∀ row ∈ t, row.length ≤ k) → (tabBlks v n c t).length ≤ t.length * k
  | [], _, _ => by simp [tabBlks]
  | row :: t, n, h => by
    have h1 := rowBlks_len v n row c
    have h2 := h row (List.mem_cons_self ..)
    have h3 := tabBlks_len v c (t := t) (n := n + 1) fun r hr => h r (List.mem_cons_of_mem _ hr)
    show (rowBlks v n c row ++ tabBlks v (n + 1) c t).length ≤ (t.length + 1) * k
    rw [List.length_append, Nat.succ_mul]
    omega
def addT : List Txt → List Txt
  | [] => []
  | x :: r => if x ∈ addT r then addT r else x :: addT r
theorem mem_addT {x : Txt} : ∀ {l : List Txt}, x ∈ addT l ↔ x ∈ l
  | [] => Iff.rfl
  | y :: l => by
    have ih : ∀ z, z ∈ addT l ↔ z ∈ l := fun z => mem_addT
    show x ∈ (if y ∈ addT l then addT l else y :: addT l) ↔ _
    split
    · rename_i h
      rw [List.mem_cons, ih]
      constructor
      · exact .inr
      · rintro (e | h2)
        · rw [e]; exact (ih y).mp h
        · exact h2
    · rw [List.mem_cons, List.mem_cons, ih]
theorem addT_nd : ∀ l : List Txt, (addT l).Nodup
  | [] => List.nodup_nil
  | y :: l => by
    show (if y ∈ addT l then addT l else y :: addT l).Nodup
    split
    · exact addT_nd l
    · exact List.nodup_cons.mpr ⟨by assumption, addT_nd l⟩
/-- the values of a list, each once, in order -/
def valsT (l : List Txt) : List Txt := sortT (addT l)
theorem mem_valsT {x : Txt} {l : List Txt} : x ∈ valsT l ↔ x ∈ l := by
  unfold valsT
  rw [(sortT_perm _).mem_iff, mem_addT]
theorem valsT_nd (l : List Txt) : (valsT l).Nodup := (sortT_perm _).nodup_iff.mpr (addT_nd l)
theorem nodup_perm {α : Type} [DecidableEq α] : ∀ {l m : List α}, l.Nodup → m.Nodup → (∀ x, x ∈ l ↔ x ∈ m) → l.Perm m
  | [], m, _, _, h => by
    cases m with
    | nil => exact .refl _
    | cons y m => exact absurd ((h y).mpr (List.mem_cons_self ..)) (by simp)
  | x :: l, m, hl, hm, h => by
    obtain ⟨h1, h2⟩ := List.nodup_cons.mp hl
    have hx : x ∈ m := (h x).mp (List.mem_cons_self ..)
    have e := nodup_perm (l := l) (m := m.erase x) h2 (hm.erase x) fun y => by
      rw [hm.mem_erase_iff]
      constructor
      · intro hy
        exact ⟨fun z => h1 (z ▸ hy), (h y).mp (List.mem_cons_of_mem _ hy)⟩
      · rintro ⟨hne, hy⟩
        rcases List.mem_cons.mp ((h y).mpr hy) with z | z
        · exact absurd z hne
        · exact z
    exact (e.cons x).trans (List.perm_cons_erase hx).symm
theorem valsT_of {ys l : List Txt} (h1 : ys.Pairwise leT) (h2 : ys.Nodup) (h3 : ∀ x, x ∈ ys ↔ x ∈ l) : ys = valsT l := by
  unfold valsT
  exact sortT_of (nodup_perm h2 (addT_nd l) fun x => by rw [h3, mem_addT]) h1
def filledH (tab : List (List Txt)) (n c : Int) : Held := (valsT tab.flatten).foldl (fun h v => fillH h (areaOf (tabBlks v n c tab)) v) newH
end CBM
end
section
set_option autoImplicit true
/-! the law's own look at runs and pairs -/
namespace CBM
abbrev RunT := Int × Int × Txt
def lrStep (found : List RunT) (j : Int) (v : Txt) : List RunT := match found.getLast? with
  | some q => if q.2.1 = j - 1 ∧ q.2.2 = v then found.dropLast ++ [(q.1, j, v)] else found ++ [(j, j, v)]
  | none => [(j, j, v)]
def lrFold : List Txt → Int → List RunT → List RunT
  | [], _, f => f
  | v :: r, j, f => lrFold r (j + 1) (lrStep f j v)
def lawRuns (line : List Txt) : List RunT := (lrFold line 0 []).filter fun q => !decide (q.2.2 = PySem.Str.ofString "")
theorem lrFold_snoc {v : Txt} : ∀ {l : List Txt} {j : Int} {f : List RunT}, lrFold (l ++ [v]) j f = lrStep (lrFold l j f) (j + l.length) v
  | [], j, f => by simp [lrFold]
  | x :: l, j, f => by
    show lrFold (l ++ [v]) (j + 1) (lrStep f j x) = lrStep (lrFold l (j + 1) (lrStep f j x)) _ v
    rw [lrFold_snoc]
    congr 1
    rw [List.length_cons]
    omega
theorem lrStep_snoc (l : List RunT) (q : RunT) (j : Int) (v : Txt) : lrStep (l ++ [q]) j v = if q.2.1 = j - 1 ∧ q.2.2 = v then l ++ [(q.1, j, v)] else l ++ [q] ++ [(j, j, v)] := by
  unfold lrStep
  rw [List.getLast?_append]
  simp
theorem lrStep_len (l : List RunT) (j : Int) (v : Txt) : (lrStep l j v).length ≤ l.length + 1 := by
  rcases List.eq_nil_or_concat l with rfl | ⟨l, q, rfl⟩
  · simp [lrStep]
  · rw [List.concat_eq_append, lrStep_snoc]
    split <;> simp
theorem lrFold_len : ∀ (l : List Txt) (j : Int) (f : List RunT), (lrFold l j f).length ≤ f.length + l.length
  | [], _, _ => Nat.le_refl _
  | x :: l, j, f => by
    have h1 := lrFold_len l (j + 1) (lrStep f j x)
    have h2 := lrStep_len f j x
    show (lrFold l (j + 1) (lrStep f j x)).length ≤ f.length + (l.length + 1)
    omega
theorem lawRuns_len (l : List Txt) : (lawRuns l).length ≤ l.length := by
  have h1 := lrFold_len l 0 []
  have h2 := List.length_filter_le (fun q : RunT => !decide (q.2.2 = PySem.Str.ofString "")) (lrFold l 0 [])
  unfold lawRuns
  simp at h1
  omega
theorem lrStep_val {l : List RunT} {j : Int} {v : Txt} {q : RunT} (h : q ∈ lrStep l j v) : q.2.2 = v ∨ q ∈ l := by
  rcases List.eq_nil_or_concat l with rfl | ⟨l, p, rfl⟩
  · have h' : q ∈ [((j, j, v) : RunT)] := h
    rw [List.mem_singleton.mp h']
    exact .inl rfl
  · rw [List.concat_eq_append] at *
    rw [lrStep_snoc] at h
    split at h
    · rcases List.mem_append.mp h with h | h
      · exact .inr (List.mem_append_left _ h)
      · rw [List.mem_singleton.mp h]
        exact .inl rfl
    · rcases List.mem_append.mp h with h | h
      · exact .inr h
      · rw [List.mem_singleton.mp h]
        exact .inl rfl
theorem lrFold_val : ∀ {l : List Txt} {j : Int} {f : List RunT} {q : RunT}, q ∈ lrFold l j f → q.2.2 ∈ l ∨ q ∈ f
  | [], _, _, _, h => .inr h
  | x :: l, j, f, q, h => by
    rcases lrFold_val (l := l) (j := j + 1) (f := lrStep f j x) h with h | h
    · exact .inl (List.mem_cons_of_mem _ h)
    · rcases lrStep_val h with e | h
      · exact .inl (by rw [e]; exact List.mem_cons_self ..)
      · exact .inr h
theorem lawRuns_val {l : List Txt} {q : RunT} (h : q ∈ lawRuns l) : q.2.2 ∈ l := by
  rcases lrFold_val (List.mem_filter.mp h).1 with h | h
  · exact h
  · cases h
abbrev OpnT := List (RunT × Int)
def setdT (f : Int) (bg : OpnT) (s : RunT) : OpnT := if bg.any (fun p => decide (p.1 = s)) then bg else bg ++ [(s, f)]
def mkT (n c i : Int) (p : RunT × Int) : Blk × Txt := (⟨n + p.2, c + p.1.1, some (n + i - 1), some (c + p.1.2.1)⟩, p.1.2.2)
structure LSt where
  found : List (Blk × Txt)
  begun : OpnT
def lpStep (n c : Int) (st : LSt) (i : Int) (runs : List RunT) : LSt :=
  ⟨st.found ++ (st.begun.filter fun p => decide (p.1 ∉ runs)).map (mkT n c i), runs.foldl (setdT i) (st.begun.filter fun p => !decide (p.1 ∉ runs))⟩
def lpFold (n c : Int) : List (List Txt) → Int → LSt → LSt
  | [], _, st => st
  | line :: r, i, st => lpFold n c r (i + 1) (lpStep n c st i (lawRuns line))
theorem lpFold_snoc {n c : Int} {x : List Txt} : ∀ {l : List (List Txt)} {i : Int} {st : LSt}, lpFold n c (l ++ [x]) i st = lpStep n c (lpFold n c l i st) (i + l.length) (lawRuns x)
  | [], i, st => by simp [lpFold]
  | y :: l, i, st => by
    show lpFold n c (l ++ [x]) (i + 1) (lpStep n c st i (lawRuns y)) = lpStep n c (lpFold n c l (i + 1) (lpStep n c st i (lawRuns y))) _ (lawRuns x)
    rw [lpFold_snoc]
    congr 1
    rw [List.length_cons]
    omega
theorem mem_setdT {f : Int} {bg : OpnT} {s : RunT} {p : RunT × Int} (h : p ∈ setdT f bg s) : p ∈ bg ∨ p = (s, f) := by
  unfold setdT at h
  split at h
  · exact .inl h
  · rcases List.mem_append.mp h with h | h
    · exact .inl h
    · exact .inr (List.mem_singleton.mp h)
theorem mem_setdTs {f : Int} : ∀ {rs : List RunT} {bg : OpnT} {p : RunT × Int}, p ∈ rs.foldl (setdT f) bg → p ∈ bg ∨ (p.1 ∈ rs ∧ p.2 = f)
  | [], _, _, h => .inl h
  | s :: rs, bg, p, h => by
    rcases mem_setdTs (rs := rs) (bg := setdT f bg s) h with h | ⟨h1, h2⟩
    · rcases mem_setdT h with h | rfl
      · exact .inl h
      · exact .inr ⟨List.mem_cons_self .., rfl⟩
    · exact .inr ⟨List.mem_cons_of_mem _ h1, h2⟩
theorem lpFold_val {n c : Int} : ∀ {l : List (List Txt)} {i : Int} {st : LSt} {p : RunT × Int}, p ∈ (lpFold n c l i st).begun → (∃ row ∈ l, p.1 ∈ lawRuns row) ∨ p ∈ st.begun
  | [], _, _, _, h => .inr h
  | y :: l, i, st, p, h => by
    rcases lpFold_val (l := l) (i := i + 1) (st := lpStep n c st i (lawRuns y)) h with ⟨row, h1, h2⟩ | h
    · exact .inl ⟨row, List.mem_cons_of_mem _ h1, h2⟩
    · rcases mem_setdTs h with h | ⟨h1, _⟩
      · exact .inr (List.mem_filter.mp h).1
      · exact .inl ⟨y, List.mem_cons_self .., h1⟩
def lawFound (tab : List (List Txt)) (n c : Int) : List (Blk × Txt) := (lpFold n c (tab ++ [[]]) 0 ⟨[], []⟩).found
theorem setdT_len (f : Int) (bg : OpnT) (s : RunT) : (setdT f bg s).length ≤ bg.length + 1 := by
  unfold setdT
  split <;> simp
theorem setdTs_len (f : Int) : ∀ (rs : List RunT) (bg : OpnT), (rs.foldl (setdT f) bg).length ≤ bg.length + rs.length
  | [], bg => Nat.le_refl _
  | s :: rs, bg => by
    have h1 := setdTs_len f rs (setdT f bg s)
    have h2 := setdT_len f bg s
    show (rs.foldl (setdT f) (setdT f bg s)).length ≤ bg.length + (rs.length + 1)
    omega
theorem setdT_nd {f : Int} {bg : OpnT} {s : RunT} (h : (bg.map (·.1)).Nodup) : ((setdT f bg s).map (·.1)).Nodup := by
  unfold setdT
  split
  · exact h
  · rename_i hn
    rw [List.map_append]
    refine List.nodup_append.mpr ⟨h, by simp, fun a ha b hb => ?_⟩
    obtain rfl : b = s := by simpa using hb
    rintro rfl
    obtain ⟨p, hp, e⟩ := List.mem_map.mp ha
    exact hn (List.any_eq_true.mpr ⟨p, hp, decide_eq_true e⟩)
theorem setdTs_nd {f : Int} : ∀ {rs : List RunT} {bg : OpnT}, (bg.map (·.1)).Nodup → ((rs.foldl (setdT f) bg).map (·.1)).Nodup
  | [], _, h => h
  | s :: rs, bg, h => setdTs_nd (rs := rs) (setdT_nd h)
theorem lpStep_nd {n c i : Int} {st : LSt} {rs : List RunT} (h : (st.begun.map (·.1)).Nodup) : ((lpStep n c st i rs).begun.map (·.1)).Nodup :=
  setdTs_nd (List.Nodup.sublist ((List.filter_sublist (l := st.begun)).map _) h)
theorem filter_split {α : Type} (e : α → Bool) : ∀ l : List α, (l.filter e).length + (l.filter fun p => !e p).length = l.length
  | [] => rfl
  | a :: l => by
    have ih := filter_split e l
    rw [List.filter_cons, List.filter_cons]
    cases e a <;> simp <;> omega
theorem lpStep_len (n c i : Int) (st : LSt) (rs : List RunT) : (lpStep n c st i rs).found.length + (lpStep n c st i rs).begun.length ≤ st.found.length + st.begun.length + rs.length := by
  have h1 := setdTs_len i rs (st.begun.filter fun p => !decide (p.1 ∉ rs))
  have h2 := filter_split (fun p : RunT × Int => decide (p.1 ∉ rs)) st.begun
  show (st.found ++ _).length + (rs.foldl (setdT i) _).length ≤ _
  rw [List.length_append, List.length_map]
  omega
theorem lpFold_ok {n c : Int} {k : Nat} : ∀ {l : List (List Txt)} {i : Int} {st : LSt}, (∀ row ∈ l, row.length ≤ k) → (st.begun.map (·.1)).Nodup → ((lpFold n c l i st).begun.map (·.1)).Nodup ∧ (lpFold n c l i st).found.length + (lpFold n c l i st).begun.length ≤ st.found.length + st.begun.length + l.length * k
  | [], i, st, _, h => ⟨h, by show _ ≤ _ + 0 * k; rw [Nat.zero_mul]; exact Nat.le_refl _⟩
  | y :: l, i, st, hl, h => by
    have q := lpFold_ok (n := n) (c := c) (l := l) (i := i + 1) (st := lpStep n c st i (lawRuns y)) (fun r hr => hl r (List.mem_cons_of_mem _ hr)) (lpStep_nd h)
    refine ⟨q.1, ?_⟩
    have h1 := q.2
    have h2 := lpStep_len n c i st (lawRuns y)
    have h3 := lawRuns_len y
    have h4 := hl y (List.mem_cons_self ..)
    show (lpFold n c l (i + 1) (lpStep n c st i (lawRuns y))).found.length + (lpFold n c l (i + 1) (lpStep n c st i (lawRuns y))).begun.length ≤ st.found.length + st.begun.length + (l.length + 1) * k
    rw [Nat.succ_mul]
    omega
end CBM
end
section
set_option autoImplicit true
/-! what the law asks of cells -/
namespace CBM
def hasC (bs : List Blk) (n c : Int) : Bool := bs.any fun b => inB b n c
/-- the values of a cell -/
def valsAt (h : Held) (n c : Int) : List Txt := (h.filter fun p => hasC p.2 n c).map (·.1)
abbrev U3 := (Int × Int) × Txt × Txt
def dueRow (n c : Int) : List Txt → List Txt → List U3
  | x :: r, y :: s => (if y ≠ x then [((n, c), x, y)] else []) ++ dueRow n (c + 1) r s
  | _, _ => []
def dueL (n c : Int) : List (List Txt) → List (List Txt) → List U3
  | x :: t, y :: s => dueRow n c x y ++ dueL (n + 1) c t s
  | _, _ => []
/-- k numbers from lo on -/
def upN (lo : Int) : Nat → List Int
  | 0 => []
  | k + 1 => upN lo k ++ [lo + k]
def rowU (b : Blk) (v s : Txt) (n : Int) : List U3 := (upN b.l ((b.r.getD 0) + 1 - b.l).toNat).map fun c => ((n, c), v, s)
def blkU (p : Tri) : List U3 := (upN p.1.t ((p.1.b.getD 0) + 1 - p.1.t).toNat).flatMap (rowU p.1 p.2.1 p.2.2)
def cellsU (l : List Tri) : List U3 := l.flatMap blkU
theorem dueRow_snoc {x y : Txt} : ∀ {l m : List Txt} {n c : Int}, l.length = m.length → dueRow n c (l ++ [x]) (m ++ [y]) = dueRow n c l m ++ (if y ≠ x then [((n, c + l.length), x, y)] else [])
  | [], [], n, c, _ => by simp [dueRow]
  | a :: l, b :: m, n, c, h => by
    show (if b ≠ a then _ else []) ++ dueRow n (c + 1) (l ++ [x]) (m ++ [y]) = ((if b ≠ a then _ else []) ++ dueRow n (c + 1) l m) ++ _
    rw [dueRow_snoc (Nat.succ.inj h), List.append_assoc]
    have e : c + 1 + (l.length : Int) = c + ((a :: l).length : Int) := by
      rw [List.length_cons]
      omega
    rw [e]
  | [], _ :: _, _, _, h => by cases h
  | _ :: _, [], _, _, h => by cases h
theorem dueL_snoc {x y : List Txt} : ∀ {l m : List (List Txt)} {n c : Int}, l.length = m.length → dueL n c (l ++ [x]) (m ++ [y]) = dueL n c l m ++ dueRow (n + l.length) c x y
  | [], [], n, c, _ => by simp [dueL]
  | a :: l, b :: m, n, c, h => by
    show dueRow n c a b ++ dueL (n + 1) c (l ++ [x]) (m ++ [y]) = (dueRow n c a b ++ dueL (n + 1) c l m) ++ _
    rw [dueL_snoc (Nat.succ.inj h), List.append_assoc]
    have e : n + 1 + (l.length : Int) = n + ((a :: l).length : Int) := by
      rw [List.length_cons]
      omega
    rw [e]
  | [], _ :: _, _, _, h => by cases h
  | _ :: _, [], _, _, h => by cases h
theorem dueRow_len : ∀ (l m : List Txt) (n c : Int), (dueRow n c l m).length ≤ l.length
  | [], m, n, c => by cases m <;> exact Nat.le_refl _
  | a :: l, [], n, c => Nat.zero_le _
  | a :: l, b :: m, n, c => by
    have := dueRow_len l m n (c + 1)
    show ((if b ≠ a then _ else []) ++ dueRow n (c + 1) l m).length ≤ l.length + 1
    rw [List.length_append]
    split <;> simp <;> omega
theorem dueL_len {k : Nat} : ∀ {l m : List (List Txt)} {n c : Int}, (∀ row ∈ l, row.length ≤ k) → (dueL n c l m).length ≤ l.length * k
  | [], m, n, c, _ => by cases m <;> simp [dueL]
  | a :: l, [], n, c, _ => by simp [dueL]
  | a :: l, b :: m, n, c, h => by
    have h1 := dueRow_len a b n c
    have h2 := h a (List.mem_cons_self ..)
    have h3 := dueL_len (l := l) (m := m) (n := n + 1) (c := c) fun r hr => h r (List.mem_cons_of_mem _ hr)
    show (dueRow n c a b ++ dueL (n + 1) c l m).length ≤ (l.length + 1) * k
    rw [List.length_append, Nat.succ_mul]
    omega
theorem dueRow_ge {u : U3} : ∀ {l m : List Txt} {n c : Int}, u ∈ dueRow n c l m → u.1.1 = n ∧ c ≤ u.1.2
  | [], m, n, c, h => by cases m <;> cases h
  | a :: l, [], n, c, h => by cases h
  | a :: l, b :: m, n, c, h => by
    have h' : u ∈ (if b ≠ a then [((n, c), a, b)] else []) ++ dueRow n (c + 1) l m := h
    rcases List.mem_append.mp h' with h | h
    · split at h
      · rw [List.mem_singleton.mp h]
        exact ⟨rfl, Int.le_refl _⟩
      · cases h
    · have q := dueRow_ge h
      exact ⟨q.1, by omega⟩
theorem dueL_ge {u : U3} : ∀ {l m : List (List Txt)} {n c : Int}, u ∈ dueL n c l m → n ≤ u.1.1 ∧ c ≤ u.1.2
  | [], m, n, c, h => by cases m <;> cases h
  | a :: l, [], n, c, h => by cases h
  | a :: l, b :: m, n, c, h => by
    have h' : u ∈ dueRow n c a b ++ dueL (n + 1) c l m := h
    rcases List.mem_append.mp h' with h | h
    · have q := dueRow_ge h
      exact ⟨by omega, q.2⟩
    · have q := dueL_ge h
      exact ⟨by omega, q.2⟩
theorem upN_len (lo : Int) : ∀ k, (upN lo k).length = k
  | 0 => rfl
  | k + 1 => by
    show (upN lo k ++ [lo + k]).length = k + 1
    rw [List.length_append, upN_len lo k]
    rfl
theorem upN_take {lo : Int} : ∀ {K k : Nat}, k ≤ K → upN lo k = (upN lo K).take k
  | 0, k, h => by
    obtain rfl : k = 0 := by omega
    rfl
  | K + 1, k, h => by
    show _ = (upN lo K ++ [lo + (K : Int)]).take k
    by_cases e : k = K + 1
    · subst e
      rw [List.take_of_length_le (by rw [List.length_append, upN_len]; exact Nat.le_refl _)]
      rfl
    · rw [List.take_append_of_le_length (by rw [upN_len]; omega)]
      exact upN_take (by omega)
theorem upN_get {lo : Int} : ∀ {K i : Nat}, i < K → (upN lo K)[i]? = some (lo + i)
  | 0, i, h => by omega
  | K + 1, i, h => by
    show (upN lo K ++ [lo + (K : Int)])[i]? = _
    by_cases e : i = K
    · subst e
      rw [List.getElem?_append_right (by rw [upN_len]; exact Nat.le_refl _), upN_len, Nat.sub_self]
      rfl
    · rw [List.getElem?_append_left (by rw [upN_len]; omega)]
      exact upN_get (by omega)
theorem mem_upN {lo x : Int} : ∀ {k : Nat}, x ∈ upN lo k ↔ lo ≤ x ∧ x < lo + k
  | 0 => by
    constructor
    · intro h
      cases h
    · rintro ⟨h1, h2⟩
      omega
  | k + 1 => by
    show x ∈ upN lo k ++ [lo + (k : Int)] ↔ _
    rw [List.mem_append, mem_upN, List.mem_singleton]
    omega
end CBM
end
section
set_option autoImplicit true
/-! maximal intervals; the fold over bands, for any kind of run -/
namespace CBM
theorem nd_of_map {α β : Type} {f : α → β} {l : List α} (h : (l.map f).Nodup) : l.Nodup := (List.pairwise_map.mp h).imp fun ne e => ne (congrArg f e)
theorem nd_map {α β : Type} {f : α → β} {l : List α} (hf : ∀ a ∈ l, ∀ b ∈ l, f a = f b → a = b) (h : l.Nodup) : (l.map f).Nodup := List.pairwise_map.mpr (List.Pairwise.imp_of_mem (fun ha hb ne e => ne (hf _ ha _ hb e)) h)
theorem inS_iff {f : Int} {e : OI} {n : Int} : inS f e n = true ↔ f ≤ n ∧ ∀ m, e = some m → n ≤ m := by
  unfold inS
  cases e with
  | none => simp
  | some m => simp
theorem okE_iff {f : Int} {e : OI} : okE f e ↔ ∀ m, e = some m → f ≤ m := by
  cases e with
  | none => exact ⟨(fun _ _ z => nomatch z), fun _ => trivial⟩
  | some k => exact ⟨fun h m e => by cases e; exact h, fun h => h k rfl⟩
structure MaxI (R : Int → Prop) (t : Int) (b : OI) : Prop where
  ne : ∀ m, b = some m → t ≤ m
  all : ∀ n, t ≤ n → (∀ m, b = some m → n ≤ m) → R n
  lo : ¬ R (t - 1)
  hi : ∀ m, b = some m → ¬ R (m + 1)
theorem MaxI.at {R : Int → Prop} {t : Int} {b : OI} (h : MaxI R t b) : R t := h.all t (Int.le_refl _) h.ne
theorem MaxI.congr {R R' : Int → Prop} {t : Int} {b : OI} (e : ∀ n, R n ↔ R' n) (h : MaxI R t b) : MaxI R' t b := ⟨h.ne, fun n a c => (e n).mp (h.all n a c), fun z => h.lo ((e _).mpr z), fun m a z => h.hi m a ((e _).mpr z)⟩
theorem MaxI.uniq {R : Int → Prop} {t t' n : Int} {b b' : OI} (h : MaxI R t b) (h' : MaxI R t' b') (i : t ≤ n) (j : ∀ m, b = some m → n ≤ m) (i' : t' ≤ n) (j' : ∀ m, b' = some m → n ≤ m) : t = t' ∧ b = b' := by
  refine ⟨?_, ?_⟩
  · rcases Int.lt_trichotomy t t' with z | z | z
    · exact absurd (h.all (t' - 1) (by omega) fun m e => by have := j m e; omega) h'.lo
    · exact z
    · exact absurd (h'.all (t - 1) (by omega) fun m e => by have := j' m e; omega) h.lo
  · cases b with
    | none => cases b' with
      | none => rfl
      | some m' =>
        have := j' m' rfl
        exact absurd (h.all (m' + 1) (by omega) fun _ z => nomatch z) (h'.hi m' rfl)
    | some m => cases b' with
      | none =>
        have := j m rfl
        exact absurd (h'.all (m + 1) (by omega) fun _ z => nomatch z) (h.hi m rfl)
      | some m' =>
        have q1 := j m rfl
        have q2 := j' m' rfl
        rcases Int.lt_trichotomy m m' with z | z | z
        · exact absurd (h'.all (m + 1) (by omega) fun k e => by cases e; omega) (h.hi m rfl)
        · rw [z]
        · exact absurd (h.all (m' + 1) (by omega) fun k e => by cases e; omega) (h'.hi m' rfl)
section
variable {α : Type} [DecidableEq α]
structure GB (α : Type) where
  f : Int
  e : OI
  rs : List α
structure GSt (α : Type) where
  found : List (α × Int × OI)
  begun : List (α × Int)
  behind : OI
def gEnds (g : GB α) (behind : OI) (p : α × Int) : Bool := decide (p.1 ∉ g.rs) || decide (behind ≠ some (g.f - 1))
def gSet (f : Int) (bg : List (α × Int)) (s : α) : List (α × Int) := if bg.any (fun p => decide (p.1 = s)) then bg else bg ++ [(s, f)]
def gStep (st : GSt α) (g : GB α) : GSt α :=
  ⟨st.found ++ (st.begun.filter (gEnds g st.behind)).map (fun p => (p.1, p.2, st.behind)), g.rs.foldl (gSet g.f) (st.begun.filter fun p => !gEnds g st.behind p), g.e⟩
def gOut (st : GSt α) : List (α × Int × OI) := st.found ++ st.begun.map fun p => (p.1, p.2, st.behind)
theorem gSet_keep {f : Int} {bg : List (α × Int)} {s : α} {p : α × Int} (h : p ∈ bg) : p ∈ gSet f bg s := by
  unfold gSet
  split
  · exact h
  · exact List.mem_append_left _ h
theorem mem_gSet {f : Int} {bg : List (α × Int)} {s : α} {p : α × Int} (h : p ∈ gSet f bg s) : p ∈ bg ∨ (p = (s, f) ∧ ∀ p' ∈ bg, p'.1 ≠ s) := by
  unfold gSet at h
  split at h
  · exact .inl h
  · rename_i hn
    rcases List.mem_append.mp h with h | h
    · exact .inl h
    · exact .inr ⟨List.mem_singleton.mp h, fun p' hp' e => hn (List.any_eq_true.mpr ⟨p', hp', decide_eq_true e⟩)⟩
theorem gSet_has (f : Int) (bg : List (α × Int)) (s : α) : ∃ p ∈ gSet f bg s, p.1 = s := by
  unfold gSet
  split
  · rename_i h
    obtain ⟨p, hp, e⟩ := List.any_eq_true.mp h
    exact ⟨p, hp, of_decide_eq_true e⟩
  · exact ⟨(s, f), List.mem_append_right _ (List.mem_singleton.mpr rfl), rfl⟩
theorem gSet_nd {f : Int} {bg : List (α × Int)} {s : α} (h : (bg.map (·.1)).Nodup) : ((gSet f bg s).map (·.1)).Nodup := by
  unfold gSet
  split
  · exact h
  · rename_i hn
    rw [List.map_append]
    refine List.nodup_append.mpr ⟨h, by simp, fun a ha b hb => ?_⟩
    obtain rfl : b = s := by simpa using hb
    rintro rfl
    obtain ⟨p, hp, e⟩ := List.mem_map.mp ha
    exact hn (List.any_eq_true.mpr ⟨p, hp, decide_eq_true e⟩)
theorem gSets_keep {f : Int} {p : α × Int} : ∀ {rs : List α} {bg : List (α × Int)}, p ∈ bg → p ∈ rs.foldl (gSet f) bg
  | [], _, h => h
  | s :: rs, bg, h => gSets_keep (rs := rs) (gSet_keep h)
theorem mem_gSets {f : Int} {p : α × Int} : ∀ {rs : List α} {bg : List (α × Int)}, p ∈ rs.foldl (gSet f) bg → p ∈ bg ∨ (p.1 ∈ rs ∧ p.2 = f ∧ ∀ p' ∈ bg, p'.1 ≠ p.1)
  | [], _, h => .inl h
  | s :: rs, bg, h => by
    rcases mem_gSets (rs := rs) (bg := gSet f bg s) h with h | ⟨h1, h2, h3⟩
    · rcases mem_gSet h with h | ⟨rfl, h3⟩
      · exact .inl h
      · exact .inr ⟨List.mem_cons_self .., rfl, h3⟩
    · exact .inr ⟨List.mem_cons_of_mem _ h1, h2, fun p' hp' => h3 p' (gSet_keep hp')⟩
theorem gSets_has {f : Int} {s : α} : ∀ {rs : List α} {bg : List (α × Int)}, s ∈ rs → ∃ p ∈ rs.foldl (gSet f) bg, p.1 = s
  | x :: rs, bg, h => by
    rcases List.mem_cons.mp h with rfl | h
    · obtain ⟨p, hp, e⟩ := gSet_has f bg s
      exact ⟨p, gSets_keep (bg := gSet f bg s) hp, e⟩
    · exact gSets_has (rs := rs) h
theorem gSets_nd {f : Int} : ∀ {rs : List α} {bg : List (α × Int)}, (bg.map (·.1)).Nodup → ((rs.foldl (gSet f) bg).map (·.1)).Nodup
  | [], _, h => h
  | s :: rs, bg, h => gSets_nd (rs := rs) (gSet_nd h)
/-- what holds between two bands -/
structure GOk (R : α → Int → Prop) (st : GSt α) (L : Int) : Prop where
  opn : ∀ p ∈ st.begun, p.2 ≤ L ∧ (∀ n, p.2 ≤ n → (∀ m, st.behind = some m → n ≤ m) → R p.1 n) ∧ ¬ R p.1 (p.2 - 1)
  top : ∀ s n m, R s n → st.behind = some m → n ≤ m
  lb : ∀ m, st.behind = some m → L ≤ m
  found : ∀ q ∈ st.found, MaxI (R q.1) q.2.1 q.2.2 ∧ ∃ m, q.2.2 = some m ∧ m < L
  cov : ∀ s n, R s n → (∃ q ∈ st.found, q.1 = s ∧ q.2.1 ≤ n ∧ ∀ m, q.2.2 = some m → n ≤ m) ∨ ∃ p ∈ st.begun, p.1 = s ∧ p.2 ≤ n
  nd : (st.begun.map (·.1)).Nodup
  ndf : st.found.Nodup
theorem gOk_start (m0 : Int) : GOk (fun (_ : α) _ => False) ⟨[], [], some m0⟩ m0 := ⟨(fun _ z => nomatch z), (fun _ _ _ z => z.elim), (fun m e => by cases e; exact Int.le_refl _), (fun _ z => nomatch z), (fun _ _ z => z.elim), List.nodup_nil, List.nodup_nil⟩
theorem gOk_step {R : α → Int → Prop} {st : GSt α} {L m : Int} {g : GB α} (h : GOk R st L) (hm : st.behind = some m) (hmf : m < g.f) (hg : ∀ m, g.e = some m → g.f ≤ m) :
    GOk (fun s n => R s n ∨ ((g.f ≤ n ∧ ∀ m, g.e = some m → n ≤ m) ∧ s ∈ g.rs)) (gStep st g) g.f := by
  have hL := h.lb m hm
  have endsI : ∀ p, gEnds g st.behind p = true ↔ (p.1 ∉ g.rs ∨ m ≠ g.f - 1) := fun p => by
    unfold gEnds
    rw [hm]
    simp
  have old : ∀ p ∈ st.begun, ¬ (R p.1 (p.2 - 1) ∨ ((g.f ≤ p.2 - 1 ∧ ∀ m, g.e = some m → p.2 - 1 ≤ m) ∧ p.1 ∈ g.rs)) := fun p hp z => by
    have q := h.opn p hp
    rcases z with z | ⟨⟨z, _⟩, _⟩
    · exact q.2.2 z
    · have := q.1
      omega
  refine ⟨fun p hp => ?_, fun s n k hr hk => ?_, fun k hk => hg k hk, fun q hq => ?_, fun s n hr => ?_, ?_, ?_⟩
  · rcases mem_gSets hp with hp | ⟨h1, h2, h3⟩
    · obtain ⟨hp1, hp2⟩ := List.mem_filter.mp hp
      have q := h.opn p hp1
      have e : ¬ (p.1 ∉ g.rs ∨ m ≠ g.f - 1) := fun z => by
        rw [(endsI p).mpr z] at hp2
        cases hp2
      have hin : p.1 ∈ g.rs := Classical.not_not.mp fun z => e (.inl z)
      have hme : m = g.f - 1 := Classical.not_not.mp fun z => e (.inr z)
      refine ⟨by have := q.1; omega, fun n hn hb => ?_, old p hp1⟩
      by_cases hnm : n ≤ m
      · exact .inl (q.2.1 n hn fun k e => by rw [hm] at e; cases e; exact hnm)
      · exact .inr ⟨⟨by omega, hb⟩, hin⟩
    · refine ⟨by omega, fun n hn hb => .inr ⟨⟨by omega, hb⟩, h1⟩, ?_⟩
      rw [h2]
      rintro (z | ⟨⟨z, _⟩, _⟩)
      · have hle := h.top _ _ m z hm
        rcases h.cov _ _ z with ⟨q, hq, _, _, e3⟩ | ⟨p', hp', e1, e2⟩
        · obtain ⟨_, k, hk, hkl⟩ := h.found q hq
          have := e3 k hk
          omega
        · refine h3 p' (List.mem_filter.mpr ⟨hp', ?_⟩) e1
          have : ¬ gEnds g st.behind p' = true := fun z => by
            rcases (endsI p').mp z with z | z
            · exact z (by rw [e1]; exact h1)
            · omega
          simpa using this
      · omega
  · rcases hr with hr | ⟨⟨_, hr⟩, _⟩
    · have := h.top s n m hr hm
      have := hg k hk
      omega
    · exact hr k hk
  · rcases List.mem_append.mp hq with hq | hq
    · obtain ⟨q1, k, hk, hkl⟩ := h.found q hq
      refine ⟨⟨q1.ne, fun n a b => .inl (q1.all n a b), ?_, fun k' e => ?_⟩, k, hk, by omega⟩
      · rintro (z | ⟨⟨z, _⟩, _⟩)
        · exact q1.lo z
        · have := q1.ne k hk
          omega
      · rw [hk] at e
        cases e
        rintro (z | ⟨⟨z, _⟩, _⟩)
        · exact q1.hi k hk z
        · omega
    · obtain ⟨p, hp, rfl⟩ := List.mem_map.mp hq
      obtain ⟨hp1, hp2⟩ := List.mem_filter.mp hp
      have q := h.opn p hp1
      have e := (endsI p).mp hp2
      refine ⟨⟨fun k e => ?_, fun n a b => .inl (q.2.1 n a b), old p hp1, fun k e' => ?_⟩, m, hm, hmf⟩
      · have e' : st.behind = some k := e
        rw [hm] at e'
        cases e'
        have := q.1
        show p.2 ≤ m
        omega
      · have e'' : st.behind = some k := e'
        rw [hm] at e''
        cases e''
        rintro (z | ⟨⟨z, _⟩, z2⟩)
        · have := h.top _ _ m z hm
          omega
        · rcases e with e | e
          · exact e z2
          · omega
  · rcases hr with hr | ⟨⟨hr1, hr2⟩, hin⟩
    · have hnm := h.top s n m hr hm
      rcases h.cov s n hr with ⟨q, hq, e⟩ | ⟨p, hp, e1, e2⟩
      · exact .inl ⟨q, List.mem_append_left _ hq, e⟩
      · cases he : gEnds g st.behind p with
        | true => exact .inl ⟨_, List.mem_append_right _ (List.mem_map.mpr ⟨p, List.mem_filter.mpr ⟨hp, he⟩, rfl⟩), e1, e2, fun k e => by
            have e' : st.behind = some k := e
            rw [hm] at e'
            cases e'
            exact hnm⟩
        | false => exact .inr ⟨p, gSets_keep (List.mem_filter.mpr ⟨hp, by rw [he]; rfl⟩), e1, e2⟩
    · obtain ⟨p, hp, e⟩ := gSets_has (f := g.f) (bg := st.begun.filter fun p => !gEnds g st.behind p) hin
      refine .inr ⟨p, hp, e, ?_⟩
      rcases mem_gSets hp with hp | ⟨_, h2, _⟩
      · have := (h.opn p (List.mem_filter.mp hp).1).1
        omega
      · omega
  · exact gSets_nd (List.Nodup.sublist ((List.filter_sublist (l := st.begun)).map _) h.nd)
  · refine List.nodup_append.mpr ⟨h.ndf, ?_, fun a ha b hb => ?_⟩
    · have h1 : (st.begun.filter (gEnds g st.behind)).Nodup := List.Nodup.sublist (List.filter_sublist) (nd_of_map h.nd)
      refine nd_map ?_ h1
      intro p _ p' _ e
      injection e with e1 e2
      injection e2 with e2 _
      exact Prod.ext e1 e2
    · obtain ⟨p, hp, rfl⟩ := List.mem_map.mp hb
      rintro rfl
      obtain ⟨_, k, hk, hkl⟩ := h.found _ ha
      have hk' : st.behind = some k := hk
      rw [hm] at hk'
      cases hk'
      omega
theorem gOk_out {R : α → Int → Prop} {st : GSt α} {L m : Int} (h : GOk R st L) (hm : ∀ k, st.behind = some k → L ≤ k) :
    (∀ q, q ∈ gOut st ↔ MaxI (R q.1) q.2.1 q.2.2) ∧ (gOut st).Nodup ∧ ∀ s n, R s n → ∃ q ∈ gOut st, q.1 = s ∧ q.2.1 ≤ n ∧ ∀ m, q.2.2 = some m → n ≤ m := by
  have cov : ∀ s n, R s n → ∃ q ∈ gOut st, q.1 = s ∧ q.2.1 ≤ n ∧ ∀ m, q.2.2 = some m → n ≤ m := fun s n hr => by
    rcases h.cov s n hr with ⟨q, hq, e⟩ | ⟨p, hp, e1, e2⟩
    · exact ⟨q, List.mem_append_left _ hq, e⟩
    · exact ⟨_, List.mem_append_right _ (List.mem_map.mpr ⟨p, hp, rfl⟩), e1, e2, fun k e => h.top s n k hr e⟩
  have mem : ∀ q ∈ gOut st, MaxI (R q.1) q.2.1 q.2.2 := fun q hq => by
    rcases List.mem_append.mp hq with hq | hq
    · exact (h.found q hq).1
    · obtain ⟨p, hp, rfl⟩ := List.mem_map.mp hq
      have q := h.opn p hp
      exact ⟨fun k e => Int.le_trans q.1 (h.lb k e), q.2.1, q.2.2, fun k e z => by have := h.top _ _ k z e; omega⟩
  refine ⟨fun q => ⟨mem q, fun hq => ?_⟩, ?_, cov⟩
  · obtain ⟨q', hq', e1, e2, e3⟩ := cov q.1 q.2.1 hq.at
    have hm' := mem q' hq'
    rw [e1] at hm'
    obtain ⟨z1, z2⟩ := hq.uniq hm' (Int.le_refl _) hq.ne e2 e3
    have : q = q' := Prod.ext e1.symm (Prod.ext z1 z2)
    rw [this]
    exact hq'
  · refine List.nodup_append.mpr ⟨h.ndf, nd_map (fun p _ p' _ e => ?_) (nd_of_map h.nd), fun a ha b hb => ?_⟩
    · injection e with e1 e2
      injection e2 with e2 _
      exact Prod.ext e1 e2
    · obtain ⟨p, hp, rfl⟩ := List.mem_map.mp hb
      rintro rfl
      obtain ⟨_, k, hk, hkl⟩ := h.found _ ha
      have := h.lb k hk
      omega
/-- a list of bands, each ahead of the next, all behind m0 -/
structure GsOk (m0 : Int) (gs : List (GB α)) : Prop where
  lo : ∀ g ∈ gs, m0 < g.f
  one : ∀ g ∈ gs, ∀ m, g.e = some m → g.f ≤ m
  next : gs.Pairwise fun g h => ∃ m, g.e = some m ∧ m < h.f
def gR (gs : List (GB α)) (s : α) (n : Int) : Prop := ∃ g ∈ gs, (g.f ≤ n ∧ ∀ m, g.e = some m → n ≤ m) ∧ s ∈ g.rs
theorem GOk.congr {R R' : α → Int → Prop} {st : GSt α} {L : Int} (e : ∀ s n, R s n ↔ R' s n) (h : GOk R st L) : GOk R' st L := by
  have : R = R' := funext fun s => funext fun n => propext (e s n)
  rw [← this]
  exact h
theorem gFold_ok : ∀ {gs : List (GB α)} {R : α → Int → Prop} {st : GSt α} {L m : Int}, GOk R st L → st.behind = some m → GsOk m gs → ∃ L', GOk (fun s n => R s n ∨ gR gs s n) (gs.foldl gStep st) L'
  | [], R, st, L, m, h, _, _ => ⟨L, h.congr fun s n => ⟨.inl, fun z => z.elim id fun ⟨_, z, _⟩ => nomatch z⟩⟩
  | g :: gs, R, st, L, m, h, hm, ok => by
    have h1 := gOk_step h hm (ok.lo g (List.mem_cons_self ..)) (ok.one g (List.mem_cons_self ..))
    obtain ⟨p1, p2⟩ := List.pairwise_cons.mp ok.next
    have split : ∀ s n, (R s n ∨ gR (g :: gs) s n) ↔ ((R s n ∨ ((g.f ≤ n ∧ ∀ m, g.e = some m → n ≤ m) ∧ s ∈ g.rs)) ∨ gR gs s n) := fun s n => by
      constructor
      · rintro (z | ⟨g', hg', z⟩)
        · exact .inl (.inl z)
        · rcases List.mem_cons.mp hg' with rfl | hg'
          · exact .inl (.inr z)
          · exact .inr ⟨g', hg', z⟩
      · rintro ((z | z) | ⟨g', hg', z⟩)
        · exact .inl z
        · exact .inr ⟨g, List.mem_cons_self .., z⟩
        · exact .inr ⟨g', List.mem_cons_of_mem _ hg', z⟩
    cases gs with
    | nil => exact ⟨_, h1.congr fun s n => by rw [split]; exact ⟨.inl, fun z => z.elim id fun ⟨_, z, _⟩ => nomatch z⟩⟩
    | cons g2 gs =>
      obtain ⟨m2, hm2, _⟩ := p1 g2 (List.mem_cons_self ..)
      obtain ⟨L', h2⟩ := gFold_ok (gs := g2 :: gs) h1 (m := m2) hm2 ⟨fun g' hg' => by
        obtain ⟨m3, e3, z⟩ := p1 g' hg'
        rw [hm2] at e3
        cases e3
        exact z, fun g' hg' => ok.one g' (List.mem_cons_of_mem _ hg'), p2⟩
      exact ⟨L', h2.congr fun s n => (split s n).symm⟩
/-- what the fold answers -/
theorem gFold_out {gs : List (GB α)} {m0 : Int} (ok : GsOk m0 gs) : (∀ q, q ∈ gOut (gs.foldl gStep ⟨[], [], some m0⟩) ↔ MaxI (gR gs q.1) q.2.1 q.2.2) ∧ (gOut (gs.foldl gStep ⟨[], [], some m0⟩)).Nodup ∧ ∀ s n, gR gs s n → ∃ q ∈ gOut (gs.foldl gStep ⟨[], [], some m0⟩), q.1 = s ∧ q.2.1 ≤ n ∧ ∀ m, q.2.2 = some m → n ≤ m := by
  obtain ⟨L, h⟩ := gFold_ok (gOk_start m0) rfl ok
  exact gOk_out (m := 0) (h.congr fun s n => ⟨fun z => z.elim (fun z => z.elim) id, .inr⟩) h.lb
end
end CBM
end
section
set_option autoImplicit true
/-! runs_by answers the maximal intervals -/
namespace CBM
theorem strS_const : ∀ {l : List Int}, SR l → ∀ {s : Seg}, s ∈ strS l → ∀ {n x : Int}, s.1 ≤ n → (∀ m, s.2 = some m → n ≤ m) → x ∈ l → (x ≤ n ↔ x ≤ s.1)
  | [], _, s, hs, _, _, _, _, _ => by cases hs
  | [c], _, s, hs, n, x, h1, h2, hx => by
    obtain rfl := List.mem_singleton.mp hs
    obtain rfl := List.mem_singleton.mp hx
    exact ⟨fun _ => Int.le_refl _, fun _ => h1⟩
  | c :: d :: r, h, s, hs, n, x, h1, h2, hx => by
    obtain ⟨p1, p2⟩ := List.pairwise_cons.mp h
    have hcd := p1 d (List.mem_cons_self ..)
    have ge : ∀ y ∈ d :: r, d ≤ y := fun y hy => by
      rcases List.mem_cons.mp hy with rfl | hy
      · exact Int.le_refl _
      · have := (List.pairwise_cons.mp p2).1 y hy
        omega
    rcases List.mem_cons.mp hs with rfl | hs
    · have := h2 (d - 1) rfl
      rcases List.mem_cons.mp hx with rfl | hx
      · exact ⟨fun _ => Int.le_refl _, fun _ => h1⟩
      · have := ge x hx
        constructor
        · intro z
          omega
        · intro z
          have z' : x ≤ c := z
          omega
    · have h3 := ge _ (strS_mem p2 s hs).1
      rcases List.mem_cons.mp hx with rfl | hx
      · constructor <;> intro _ <;> omega
      · exact strS_const p2 hs h1 h2 hx
theorem strS_cover : ∀ {l : List Int}, SR l → ∀ {n x : Int}, x ∈ l → x ≤ n → ∃ s ∈ strS l, s.1 ≤ n ∧ ∀ m, s.2 = some m → n ≤ m
  | [c], _, n, x, hx, h => by
    obtain rfl := List.mem_singleton.mp hx
    exact ⟨_, List.mem_singleton.mpr rfl, h, fun _ z => nomatch z⟩
  | c :: d :: r, hp, n, x, hx, h => by
    obtain ⟨p1, p2⟩ := List.pairwise_cons.mp hp
    by_cases hd : d ≤ n
    · obtain ⟨s, hs, e⟩ := strS_cover p2 (List.mem_cons_self ..) hd
      exact ⟨s, List.mem_cons_of_mem _ hs, e⟩
    · have hc : c ≤ n := by
        rcases List.mem_cons.mp hx with rfl | hx
        · exact h
        · have := p1 x hx
          omega
      exact ⟨_, List.mem_cons_self .., hc, fun m e => by cases e; omega⟩
theorem bool_ext {a b : Bool} (h : a = true ↔ b = true) : a = b := by
  cases a <;> cases b <;> simp_all
theorem inS_const {l : List Int} (hl : SR l) {s : Seg} (hs : s ∈ strS l) {n : Int} (h1 : s.1 ≤ n) (h2 : ∀ m, s.2 = some m → n ≤ m) {a : Int} {b : OI} (ha : a ∈ l) (hb : ∀ m, b = some m → m + 1 ∈ l) : inS a b n = inS a b s.1 := by
  refine bool_ext ?_
  rw [inS_iff, inS_iff, strS_const hl hs h1 h2 ha]
  refine and_congr Iff.rfl ⟨fun h m e => ?_, fun h m e => ?_⟩
  · have q := strS_const hl hs h1 h2 (hb m e)
    have := h m e
    omega
  · have q := strS_const hl hs h1 h2 (hb m e)
    have := h m e
    omega
section
variable {α : Type} [DecidableEq α]
def withX (acc : List (α × Int × OI)) (s : α × Int × OI) : List (α × Int × OI) := match acc.getLast? with
  | some q => if q.1 = s.1 ∧ q.2.2 = some (s.2.1 - 1) then acc.dropLast ++ [(s.1, q.2.1, s.2.2)] else acc ++ [s]
  | none => [s]
def oneB (s : α × Int × OI) : GB α := ⟨s.2.1, s.2.2, [s.1]⟩
theorem withX_snoc (l : List (α × Int × OI)) (q s : α × Int × OI) : withX (l ++ [q]) s = if q.1 = s.1 ∧ q.2.2 = some (s.2.1 - 1) then l ++ [(s.1, q.2.1, s.2.2)] else l ++ [q] ++ [s] := by
  unfold withX
  rw [List.getLast?_append]
  simp
/-- at most one run is open, one is once there was one -/
def OneOpen (st : GSt α) : Prop := (st.begun = [] ∧ st.found = []) ∨ ∃ p, st.begun = [p]
theorem gStep_one {st : GSt α} {s : α × Int × OI} (h : OneOpen st) : gOut (gStep st (oneB s)) = withX (gOut st) s ∧ OneOpen (gStep st (oneB s)) := by
  obtain ⟨x, f, e⟩ := s
  rcases h with ⟨h1, h2⟩ | ⟨p, h1⟩
  · refine ⟨?_, .inr ⟨(x, f), ?_⟩⟩
    · unfold gOut gStep oneB
      rw [h1, h2]
      simp [gSet, withX]
    · unfold gStep oneB
      rw [h1]
      simp [gSet]
  · obtain ⟨y, t⟩ := p
    have ho : gOut st = st.found ++ [(y, t, st.behind)] := by
      unfold gOut
      rw [h1]
      rfl
    rw [ho, withX_snoc]
    by_cases hc : y = x ∧ st.behind = some (f - 1)
    · have he : gEnds (oneB (x, f, e)) st.behind (y, t) = false := by
        unfold gEnds oneB
        simp [hc.1, hc.2]
      have hb : (gStep st (oneB (x, f, e))).begun = [(x, t)] := by
        unfold gStep
        rw [h1]
        show ([x] : List α).foldl (gSet f) (([(y, t)] : List (α × Int)).filter fun p => !gEnds (oneB (x, f, e)) st.behind p) = _
        rw [List.filter_cons, if_pos (by rw [he]; rfl)]
        simp [gSet, hc.1]
      have hf : (gStep st (oneB (x, f, e))).found = st.found := by
        unfold gStep
        rw [h1]
        show st.found ++ (([(y, t)] : List (α × Int)).filter (gEnds (oneB (x, f, e)) st.behind)).map _ = _
        rw [List.filter_cons, if_neg (by rw [he]; simp)]
        simp
      refine ⟨?_, .inr ⟨_, hb⟩⟩
      rw [if_pos hc]
      unfold gOut
      rw [hb, hf]
      rfl
    · have he : gEnds (oneB (x, f, e)) st.behind (y, t) = true := by
        unfold gEnds oneB
        have hc' : y = x → ¬ st.behind = some (f - 1) := fun a b => hc ⟨a, b⟩
        by_cases a : y = x
        · simp [a, hc' a]
        · simp [a]
      have hb : (gStep st (oneB (x, f, e))).begun = [(x, f)] := by
        unfold gStep
        rw [h1]
        show ([x] : List α).foldl (gSet f) (([(y, t)] : List (α × Int)).filter fun p => !gEnds (oneB (x, f, e)) st.behind p) = _
        rw [List.filter_cons, if_neg (by rw [he]; simp)]
        simp [gSet]
      have hf : (gStep st (oneB (x, f, e))).found = st.found ++ [(y, t, st.behind)] := by
        unfold gStep
        rw [h1]
        show st.found ++ (([(y, t)] : List (α × Int)).filter (gEnds (oneB (x, f, e)) st.behind)).map _ = _
        rw [List.filter_cons, if_pos he]
        simp
      refine ⟨?_, .inr ⟨_, hb⟩⟩
      rw [if_neg hc]
      unfold gOut
      rw [hb, hf]
      rfl
theorem gFold_one : ∀ {l : List (α × Int × OI)} {st : GSt α}, OneOpen st → gOut ((l.map oneB).foldl gStep st) = l.foldl withX (gOut st)
  | [], _, _ => rfl
  | s :: l, st, h => by
    obtain ⟨h1, h2⟩ := gStep_one (s := s) h
    show gOut ((l.map oneB).foldl gStep (gStep st (oneB s))) = l.foldl withX (withX (gOut st) s)
    rw [gFold_one h2, h1]
end
theorem withRun_X (acc : List (Unit × Int × OI)) (s : Seg) : withRun (acc.map (·.2)) s.1 s.2 = (withX acc ((), s)).map (·.2) := by
  rcases List.eq_nil_or_concat acc with rfl | ⟨l, q, rfl⟩
  · rfl
  · rw [List.concat_eq_append, withX_snoc, List.map_append]
    unfold withRun
    rw [List.getLast?_append]
    simp only [List.map_cons, List.map_nil, List.getLast?_singleton, Option.some_or, List.dropLast_concat]
    by_cases h : q.2.2 = some (s.1 - 1)
    · rw [if_pos h, if_pos ⟨trivial, h⟩, List.map_append]
      rfl
    · rw [if_neg h, if_neg fun z => h z.2, List.map_append, List.map_append]
      rfl
theorem runs_X (one other : List Seg) (k : Bool → Bool → Bool) : ∀ (ss : List Seg) (acc : List (Unit × Int × OI)), ss.foldl (runsStep one other k) (acc.map (·.2)) = (((ss.filter fun s => k (hasS one s.1) (hasS other s.1)).map fun s => (((), s) : Unit × Int × OI)).foldl withX acc).map (·.2)
  | [], acc => rfl
  | s :: ss, acc => by
    show ss.foldl (runsStep one other k) (runsStep one other k (acc.map (·.2)) s) = _
    unfold runsStep
    rw [List.filter_cons]
    by_cases h : k (hasS one s.1) (hasS other s.1) = true
    · rw [if_pos h, if_pos h, withRun_X]
      exact runs_X one other k ss _
    · rw [if_neg h, if_neg h]
      exact runs_X one other k ss _
theorem hasS_iff {ss : List Seg} {n : Int} : hasS ss n = true ↔ ∃ s ∈ ss, s.1 ≤ n ∧ ∀ m, s.2 = some m → n ≤ m := by
  unfold hasS
  rw [List.any_eq_true]
  constructor
  · rintro ⟨s, hs, e⟩
    exact ⟨s, hs, inS_iff.mp e⟩
  · rintro ⟨s, hs, e⟩
    exact ⟨s, hs, inS_iff.mpr e⟩
theorem any_congr {α : Type} {p q : α → Bool} : ∀ {l : List α}, (∀ x ∈ l, p x = q x) → l.any p = l.any q
  | [], _ => rfl
  | x :: l, h => by
    rw [List.any_cons, List.any_cons, h x (List.mem_cons_self ..), any_congr fun y hy => h y (List.mem_cons_of_mem _ hy)]
theorem runsBy_spec {one other : List Seg} {k : Bool → Bool → Bool} (h : ∀ s ∈ one ++ other, okS s) (hk : k false false = false) :
    (∀ s, s ∈ runsBy one other k ↔ MaxI (fun c => k (hasS one c) (hasS other c) = true) s.1 s.2) ∧ ∀ c, k (hasS one c) (hasS other c) = true → ∃ s ∈ runsBy one other k, s.1 ≤ c ∧ ∀ m, s.2 = some m → c ≤ m := by
  have hsr := sortU_sr (cutsOf (one ++ other))
  have hcut : ∀ x, x ∈ sortU (cutsOf (one ++ other)) ↔ x ∈ cutsOf (one ++ other) := fun x => mem_sortU
  have hge : ∀ x ∈ sortU (cutsOf (one ++ other)), 1 ≤ x := fun x hx => by
    rcases cutsOf_mem.mp ((hcut x).mp hx) with ⟨s, hs, rfl⟩ | ⟨s, hs, m, hm, rfl⟩
    · exact (h s hs).1
    · have h1 := h s hs
      have h2 := okE_iff.mp h1.2 m hm
      have := h1.1
      omega
  have const : ∀ (l : List Seg), (∀ s ∈ l, s ∈ one ++ other) → ∀ s ∈ stretches (cutsOf (one ++ other)), ∀ n, s.1 ≤ n → (∀ m, s.2 = some m → n ≤ m) → hasS l n = hasS l s.1 := fun l hl s hs n h1 h2 =>
    any_congr fun x hx => inS_const hsr hs h1 h2 ((hcut _).mpr (cutsOf_mem.mpr (.inl ⟨x, hl x hx, rfl⟩))) fun m e => (hcut _).mpr (cutsOf_mem.mpr (.inr ⟨x, hl x hx, m, e, rfl⟩))
  have fc : ∀ s ∈ stretches (cutsOf (one ++ other)), ∀ n, s.1 ≤ n → (∀ m, s.2 = some m → n ≤ m) → k (hasS one n) (hasS other n) = k (hasS one s.1) (hasS other s.1) := fun s hs n h1 h2 => by
    rw [const one (fun s hs => List.mem_append_left _ hs) s hs n h1 h2, const other (fun s hs => List.mem_append_right _ hs) s hs n h1 h2]
  have gs_ok : GsOk 0 (((stretches (cutsOf (one ++ other))).filter fun s => k (hasS one s.1) (hasS other s.1)).map fun s => oneB (((), s) : Unit × Int × OI)) := by
    refine ⟨fun g hg => ?_, fun g hg => ?_, ?_⟩
    · obtain ⟨s, hs, rfl⟩ := List.mem_map.mp hg
      have := hge _ (strS_mem hsr s (List.mem_filter.mp hs).1).1
      show 0 < s.1
      omega
    · obtain ⟨s, hs, rfl⟩ := List.mem_map.mp hg
      exact okE_iff.mp (strS_mem hsr s (List.mem_filter.mp hs).1).2.1
    · exact List.pairwise_map.mpr ((strS_next hsr).filter _)
  have hR : ∀ n, gR (((stretches (cutsOf (one ++ other))).filter fun s => k (hasS one s.1) (hasS other s.1)).map fun s => oneB (((), s) : Unit × Int × OI)) () n ↔ k (hasS one n) (hasS other n) = true := fun n => by
    constructor
    · rintro ⟨g, hg, ⟨h1, h2⟩, _⟩
      obtain ⟨s, hs, rfl⟩ := List.mem_map.mp hg
      obtain ⟨hs1, hs2⟩ := List.mem_filter.mp hs
      rw [fc s hs1 n h1 h2]
      exact hs2
    · intro hf
      have : hasS (one ++ other) n = true := by
        have e : hasS (one ++ other) n = (hasS one n || hasS other n) := List.any_append
        rw [e]
        cases h1 : hasS one n with
        | true => rfl
        | false => cases h2 : hasS other n with
          | true => rfl
          | false =>
            rw [h1, h2, hk] at hf
            cases hf
      obtain ⟨s, hs, h1, _⟩ := hasS_iff.mp this
      obtain ⟨s0, hs0, h3, h4⟩ := strS_cover hsr ((hcut _).mpr (cutsOf_mem.mpr (.inl ⟨s, hs, rfl⟩))) h1
      exact ⟨_, List.mem_map.mpr ⟨s0, List.mem_filter.mpr ⟨hs0, by rw [← fc s0 hs0 n h3 h4]; exact hf⟩, rfl⟩, ⟨h3, h4⟩, List.mem_singleton.mpr rfl⟩
  have out := gFold_out gs_ok
  have er : runsBy one other k = (gOut ((((stretches (cutsOf (one ++ other))).filter fun s => k (hasS one s.1) (hasS other s.1)).map fun s => oneB (((), s) : Unit × Int × OI)).foldl gStep ⟨[], [], some 0⟩)).map (·.2) := by
    have e1 := runs_X one other k (stretches (cutsOf (one ++ other))) []
    have e2 := gFold_one (l := ((stretches (cutsOf (one ++ other))).filter fun s => k (hasS one s.1) (hasS other s.1)).map fun s => (((), s) : Unit × Int × OI)) (st := ⟨[], [], some 0⟩) (.inl ⟨rfl, rfl⟩)
    rw [List.map_map] at e2
    unfold runsBy
    show (stretches (cutsOf (one ++ other))).foldl (runsStep one other k) (([] : List (Unit × Int × OI)).map (·.2)) = _
    rw [e1]
    exact congrArg (List.map (·.2)) e2.symm
  rw [er]
  refine ⟨fun s => ?_, fun c hc => ?_⟩
  · rw [List.mem_map]
    constructor
    · rintro ⟨q, hq, rfl⟩
      exact ((out.1 q).mp hq).congr hR
    · intro hm
      exact ⟨((), s), (out.1 _).mpr (hm.congr fun n => (hR n).symm), rfl⟩
  · obtain ⟨q, hq, _, e⟩ := out.2.2 () c ((hR c).mpr hc)
    exact ⟨q.2, List.mem_map.mpr ⟨q, hq, rfl⟩, e⟩
end CBM
end
section
set_option autoImplicit true
/-! the one form of a set of cells -/
namespace CBM
instance decEqBlk : DecidableEq Blk := fun a b => if h : a.t = b.t ∧ a.l = b.l ∧ a.b = b.b ∧ a.r = b.r then .isTrue (by
  obtain ⟨t, l, bb, r⟩ := a
  obtain ⟨t', l', bb', r'⟩ := b
  obtain ⟨e1, e2, e3, e4⟩ := h
  cases e1
  cases e2
  cases e3
  cases e4
  rfl) else .isFalse fun e => h (by rw [e]; exact ⟨rfl, rfl, rfl, rfl⟩)
def IsRun (S : Int → Int → Bool) (n : Int) (s : Seg) : Prop := MaxI (fun c => S n c = true) s.1 s.2
def IsBlk (S : Int → Int → Bool) (b : Blk) : Prop := MaxI (fun n => IsRun S n (b.l, b.r)) b.t b.b
def ltB (a b : Blk) : Prop := a.t < b.t ∨ (a.t = b.t ∧ a.l < b.l)
/-- bs is the form of S -/
structure IsForm (S : Int → Int → Bool) (bs : List Blk) : Prop where
  sorted : bs.Pairwise ltB
  mem : ∀ b, b ∈ bs ↔ IsBlk S b
  has : ∀ n c, hasC bs n c = S n c
theorem inB_iff {b : Blk} {n c : Int} : inB b n c = true ↔ (b.t ≤ n ∧ ∀ m, b.b = some m → n ≤ m) ∧ (b.l ≤ c ∧ ∀ m, b.r = some m → c ≤ m) := by
  unfold inB
  rw [Bool.and_eq_true, inS_iff, inS_iff]
theorem hasC_iff {bs : List Blk} {n c : Int} : hasC bs n c = true ↔ ∃ b ∈ bs, inB b n c = true := List.any_eq_true
theorem IsBlk.inS {S : Int → Int → Bool} {b : Blk} (h : IsBlk S b) {n c : Int} (i : inB b n c = true) : S n c = true := by
  obtain ⟨h1, h2⟩ := inB_iff.mp i
  exact (h.all n h1.1 h1.2).all c h2.1 h2.2
theorem IsBlk.corner {S : Int → Int → Bool} {b : Blk} (h : IsBlk S b) : inB b b.t b.l = true := inB_iff.mpr ⟨⟨Int.le_refl _, h.ne⟩, Int.le_refl _, h.at.ne⟩
/-- a cell lies in one block -/
theorem IsBlk.uniq {S : Int → Int → Bool} {b b' : Blk} (h : IsBlk S b) (h' : IsBlk S b') {n c : Int} (i : inB b n c = true) (i' : inB b' n c = true) : b = b' := by
  obtain ⟨h1, h2⟩ := inB_iff.mp i
  obtain ⟨h1', h2'⟩ := inB_iff.mp i'
  obtain ⟨e1, e2⟩ := (h.all n h1.1 h1.2).uniq (h'.all n h1'.1 h1'.2) h2.1 h2.2 h2'.1 h2'.2
  obtain ⟨t, l, bb, r⟩ := b
  obtain ⟨t', l', bb', r'⟩ := b'
  have e1' : l = l' := e1
  have e2' : r = r' := e2
  subst e1' e2'
  obtain ⟨e3, e4⟩ := MaxI.uniq (show MaxI (fun n => IsRun S n (l, r)) t bb from h) (show MaxI (fun n => IsRun S n (l, r)) t' bb' from h') h1.1 h1.2 h1'.1 h1'.2
  subst e3 e4
  rfl
theorem IsForm.congr {S S' : Int → Int → Bool} {bs : List Blk} (h : IsForm S bs) (e : ∀ n c, S n c = S' n c) : IsForm S' bs := by
  have : S = S' := funext fun n => funext fun c => e n c
  rw [← this]
  exact h
theorem ltB_ne {bs : List Blk} (h : bs.Pairwise ltB) : bs.Nodup := h.imp fun {a b} q e => by
  subst e
  rcases q with q | ⟨_, q⟩ <;> omega
/-- two forms of one set are equal -/
theorem IsForm.unique {S : Int → Int → Bool} {bs bs' : List Blk} (h : IsForm S bs) (h' : IsForm S bs') : bs = bs' :=
  List.Perm.eq_of_pairwise (le := ltB) (fun a b _ _ h1 h2 => by
    exfalso
    rcases h1 with h1 | ⟨h1, h3⟩ <;> rcases h2 with h2 | ⟨h2, h4⟩ <;> omega) h.sorted h'.sorted (nodup_perm (ltB_ne h.sorted) (ltB_ne h'.sorted) fun b => by rw [h.mem, h'.mem])
theorem leB_trans {a b c : Blk} (h1 : leB a b = true) (h2 : leB b c = true) : leB a c = true := by
  unfold leB at *
  rw [decide_eq_true_eq] at *
  omega
theorem leB_total (a b : Blk) : (leB a b || leB b a) = true := by
  unfold leB
  rw [Bool.or_eq_true, decide_eq_true_eq, decide_eq_true_eq]
  omega
theorem form_of {S : Int → Int → Bool} {bs l : List Blk} (hl : bs = l.mergeSort leB) (nd : l.Nodup) (mem : ∀ b, b ∈ l ↔ IsBlk S b) (has : ∀ n c, S n c = true → ∃ b ∈ l, inB b n c = true) : IsForm S bs := by
  have pm : bs.Perm l := by
    rw [hl]
    exact List.mergeSort_perm _ _
  have mem' : ∀ b, b ∈ bs ↔ IsBlk S b := fun b => by rw [pm.mem_iff, mem]
  refine ⟨?_, mem', fun n c => bool_ext ⟨fun h => ?_, fun h => ?_⟩⟩
  · have h1 : bs.Pairwise fun a b => leB a b = true := by
      rw [hl]
      exact List.pairwise_mergeSort (le := leB) (fun a b c h1 h2 => leB_trans h1 h2) (fun a b => leB_total a b) l
    have h2 : bs.Nodup := pm.nodup_iff.mpr nd
    refine (List.Pairwise.imp_of_mem (fun {a b} ha hb q => ?_) (h1.and h2))
    obtain ⟨q1, q2⟩ := q
    unfold leB at q1
    rw [decide_eq_true_eq] at q1
    rcases q1 with q1 | ⟨q1, q3⟩
    · exact .inl q1
    · refine .inr ⟨q1, ?_⟩
      have : a.l ≠ b.l := fun e => q2 (((mem' a).mp ha).uniq ((mem' b).mp hb) ((mem' a).mp ha).corner (by
        have := ((mem' b).mp hb).corner
        rw [q1, e]
        exact this))
      omega
  · obtain ⟨b, hb, i⟩ := hasC_iff.mp h
    exact ((mem' b).mp hb).inS i
  · obtain ⟨b, hb, i⟩ := has n c h
    exact hasC_iff.mpr ⟨b, pm.mem_iff.mpr hb, i⟩
theorem dec_irrel {p : Prop} (i j : Decidable p) : @decide p i = @decide p j := congrArg (@decide p) (Subsingleton.elim i j)
/-- the steps of form_of -/
def fRel (st : FSt) (st' : GSt Seg) : Prop := st.found = st'.found.map (fun q => mkB q.2.2 (q.1, q.2.1)) ∧ st.begun = st'.begun ∧ st.behind = st'.behind
def bandG (g : Band) : GB Seg := ⟨g.f, g.e, g.rs⟩
theorem fRel_step {st : FSt} {st' : GSt Seg} (h : fRel st st') (g : Band) : fRel (fStep st g) (gStep st' (bandG g)) := by
  obtain ⟨h1, h2, h3⟩ := h
  have e : ends1 g st'.behind = gEnds (bandG g) st'.behind := funext fun p => congrArg (· || decide (st'.behind ≠ some (g.f - 1))) (dec_irrel _ _)
  refine ⟨?_, ?_, rfl⟩
  · unfold fStep gStep
    rw [h1, h2, h3, e]
    show _ ++ _ = List.map _ (_ ++ _)
    rw [List.map_append, List.map_map]
    rfl
  · unfold fStep gStep
    rw [h2, h3, e]
    rfl
theorem fRel_fold : ∀ {gs : List Band} {st : FSt} {st' : GSt Seg}, fRel st st' → fRel (gs.foldl fStep st) ((gs.map bandG).foldl gStep st')
  | [], _, _, h => h
  | g :: gs, _, _, h => fRel_fold (gs := gs) (fRel_step h g)
theorem fRun_out (gs : List Band) : (fRun gs).found ++ (fRun gs).begun.map (mkB (fRun gs).behind) = (gOut ((gs.map bandG).foldl gStep ⟨[], [], some 0⟩)).map fun q => mkB q.2.2 (q.1, q.2.1) := by
  obtain ⟨h1, h2, h3⟩ := fRel_fold (gs := gs) (st := ⟨[], [], some 0⟩) (st' := ⟨[], [], some 0⟩) ⟨rfl, rfl, rfl⟩
  unfold fRun gOut
  rw [h1, h2, h3, List.map_append, List.map_map]
  rfl
section
variable {rs cs : List Int} {one other : List Blk} {k : Bool → Bool → Bool}
theorem hasS_cols (bs : List Blk) (n c : Int) : hasS (columnsAt bs n) c = hasC bs n c := by
  unfold hasS columnsAt hasC inB
  rw [List.any_map, List.any_filter]
  rfl
theorem byK_form (h1 : Fits rs cs one) (h2 : Fits rs cs other) (hk : k false false = false) : IsForm (fun n c => k (hasC one n c) (hasC other n c)) (byK one other k) := by
  have bk := (bands_fit (k := k) h1 h2).1
  have hsr := sortU_sr (cutsOf (rowsOf (one ++ other)))
  have hcut : ∀ x, x ∈ sortU (cutsOf (rowsOf (one ++ other))) ↔ x ∈ cutsOf (rowsOf (one ++ other)) := fun x => mem_sortU
  have gok : GsOk 0 ((bandsBy one other k).map bandG) := by
    refine ⟨fun g hg => ?_, fun g hg => ?_, List.pairwise_map.mpr bk.next⟩
    · obtain ⟨b, hb, rfl⟩ := List.mem_map.mp hg
      have := (bk.one b hb).1
      show 0 < b.f
      omega
    · obtain ⟨b, hb, rfl⟩ := List.mem_map.mp hg
      exact okE_iff.mp (bk.one b hb).2.1
  have const : ∀ (l : List Blk), (∀ b ∈ l, b ∈ one ++ other) → ∀ s ∈ stretches (cutsOf (rowsOf (one ++ other))), ∀ n, s.1 ≤ n → (∀ m, s.2 = some m → n ≤ m) → ∀ c, hasC l n c = hasC l s.1 c := fun l hl s hs n z1 z2 c =>
    any_congr fun b hb => by
      have hm : (b.t, b.b) ∈ rowsOf (one ++ other) := List.mem_map.mpr ⟨b, hl b hb, rfl⟩
      have e := inS_const hsr hs z1 z2 (a := b.t) (b := b.b) ((hcut _).mpr (cutsOf_mem.mpr (.inl ⟨_, hm, rfl⟩))) fun m e => (hcut _).mpr (cutsOf_mem.mpr (.inr ⟨_, hm, m, e, rfl⟩))
      unfold inB
      rw [e]
  have fc : ∀ s ∈ stretches (cutsOf (rowsOf (one ++ other))), ∀ n, s.1 ≤ n → (∀ m, s.2 = some m → n ≤ m) → ∀ c, k (hasC one n c) (hasC other n c) = k (hasC one s.1 c) (hasC other s.1 c) := fun s hs n z1 z2 c => by
    rw [const one (fun s hs => List.mem_append_left _ hs) s hs n z1 z2 c, const other (fun s hs => List.mem_append_right _ hs) s hs n z1 z2 c]
  have okc : ∀ n, ∀ s ∈ columnsAt one n ++ columnsAt other n, okS s := fun n s hs => by
    rcases List.mem_append.mp hs with hs | hs
    · exact (cols_fit h1 n s hs).2.1
    · exact (cols_fit h2 n s hs).2.1
  have rspec : ∀ n s, s ∈ runsBy (columnsAt one n) (columnsAt other n) k ↔ IsRun (fun n c => k (hasC one n c) (hasC other n c)) n s := fun n s => by
    have q := (runsBy_spec (okc n) hk).1 s
    simp only [hasS_cols] at q
    exact q
  have cover : ∀ n c, k (hasC one n c) (hasC other n c) = true → ∃ s ∈ stretches (cutsOf (rowsOf (one ++ other))), s.1 ≤ n ∧ ∀ m, s.2 = some m → n ≤ m := fun n c hf => by
    have : hasC (one ++ other) n c = true := by
      have e : hasC (one ++ other) n c = (hasC one n c || hasC other n c) := List.any_append
      rw [e]
      cases z1 : hasC one n c with
      | true => rfl
      | false => cases z2 : hasC other n c with
        | true => rfl
        | false =>
          rw [z1, z2, hk] at hf
          cases hf
    obtain ⟨b, hb, i⟩ := hasC_iff.mp this
    have hm : (b.t, b.b) ∈ rowsOf (one ++ other) := List.mem_map.mpr ⟨b, hb, rfl⟩
    exact strS_cover hsr ((hcut _).mpr (cutsOf_mem.mpr (.inl ⟨_, hm, rfl⟩))) (inB_iff.mp i).1.1
  have hR : ∀ s n, gR ((bandsBy one other k).map bandG) s n ↔ IsRun (fun n c => k (hasC one n c) (hasC other n c)) n s := fun s n => by
    constructor
    · rintro ⟨g, hg, ⟨z1, z2⟩, hin⟩
      obtain ⟨b, hb, rfl⟩ := List.mem_map.mp hg
      obtain ⟨s0, hs0, e⟩ := List.mem_filterMap.mp hb
      obtain ⟨rfl, _⟩ := bandOf_eq e
      have q := (rspec s0.1 s).mp hin
      exact q.congr fun c => by show k (hasC one s0.1 c) (hasC other s0.1 c) = true ↔ k (hasC one n c) (hasC other n c) = true; rw [fc s0 hs0 n z1 z2 c]
    · intro hr
      obtain ⟨s0, hs0, z1, z2⟩ := cover n s.1 hr.at
      have q : s ∈ runsBy (columnsAt one s0.1) (columnsAt other s0.1) k := (rspec s0.1 s).mpr (hr.congr fun c => by show k (hasC one n c) (hasC other n c) = true ↔ k (hasC one s0.1 c) (hasC other s0.1 c) = true; rw [fc s0 hs0 n z1 z2 c])
      refine ⟨bandG ⟨s0.1, s0.2, runsBy (columnsAt one s0.1) (columnsAt other s0.1) k⟩, List.mem_map.mpr ⟨_, List.mem_filterMap.mpr ⟨s0, hs0, ?_⟩, rfl⟩, ⟨z1, z2⟩, q⟩
      unfold bandOf
      rw [if_neg fun e => by rw [e] at q; cases q]
  have out := gFold_out gok
  refine form_of (l := (fRun (bandsBy one other k)).found ++ (fRun (bandsBy one other k)).begun.map (mkB (fRun (bandsBy one other k)).behind)) rfl ?_ (fun b => ?_) fun n c hf => ?_
  · rw [fRun_out]
    refine nd_map (fun q _ q' _ e => ?_) out.2.1
    obtain ⟨⟨l, r⟩, t, bb⟩ := q
    obtain ⟨⟨l', r'⟩, t', bb'⟩ := q'
    unfold mkB at e
    injection e with e1 e2 e3 e4
    simp_all
  · rw [fRun_out, List.mem_map]
    constructor
    · rintro ⟨q, hq, rfl⟩
      exact ((out.1 q).mp hq).congr fun n => hR q.1 n
    · intro hb
      exact ⟨((b.l, b.r), b.t, b.b), (out.1 _).mpr (MaxI.congr (fun n => (hR _ n).symm) hb), rfl⟩
  · obtain ⟨s, hs, e1, e2⟩ := (runsBy_spec (okc n) hk).2 c (by simp only [hasS_cols]; exact hf)
    obtain ⟨q, hq, e3, e4, e5⟩ := out.2.2 s n ((hR s n).mpr ((rspec n s).mp hs))
    rw [fRun_out]
    refine ⟨_, List.mem_map.mpr ⟨q, hq, rfl⟩, inB_iff.mpr ⟨⟨e4, e5⟩, ?_⟩⟩
    rw [← e3] at e1 e2
    exact ⟨e1, e2⟩
theorem areaOf_form {bs : List Blk} (h : Fits rs cs bs) : IsForm (hasC bs) (areaOf bs) := (byK_form (k := kOr) (other := []) h (fun _ (z : _ ∈ []) => nomatch z) rfl).congr fun n c => by
  show (hasC bs n c || false) = _
  rw [Bool.or_false]
theorem areaK_form (h1 : Fits rs cs one) (h2 : Fits rs cs other) (z1 : rs.length ≤ 20) (z2 : cs.length ≤ 20) (hk : k false false = false) : IsForm (fun n c => k (hasC one n c) (hasC other n c)) (areaK one other k) :=
  (areaOf_form (byK_fit (k := k) h1 h2 z1 z2).2.2.2.1).congr fun n c => (byK_form h1 h2 hk).has n c
end
end CBM
end
section
set_option maxHeartbeats 4000000
/-! dicts whose keys are tuples of None, ints and texts -/
namespace CB
open PySem PySem.Spec PyProof.Rows L2

/-! ### keys -/
def kfl : V → Bool
  | .non | .int _ | .str _ => true
  | _ => false
def nkV : V → NestedKey
  | .int i => .num i
  | .str x => .text x
  | _ => .none
def nkT (k : List V) : NestedKey := .tup (k.map nkV)
theorem nkV_inj {a b : V} (ha : kfl a = true) (hb : kfl b = true) (e : nkV a = nkV b) : a = b := by
  cases a <;> first | (cases ha; done) | (cases b <;> first | (cases hb; done) | (cases e; done) | (injection e with e; subst e; rfl) | rfl)
theorem nkVs_inj : ∀ {a b : List V}, a.all kfl = true → b.all kfl = true → a.map nkV = b.map nkV → a = b
  | [], [], _, _, _ => rfl
  | [], _ :: _, _, _, e => by cases e
  | _ :: _, [], _, _, e => by cases e
  | x :: xs, y :: ys, ha, hb, e => by
    rw [List.all_cons, Bool.and_eq_true] at ha hb
    injection e with e1 e2
    rw [nkV_inj ha.1 hb.1 e1, nkVs_inj ha.2 hb.2 e2]
theorem nkT_inj {a b : List V} (ha : a.all kfl = true) (hb : b.all kfl = true) (e : nkT a = nkT b) : a = b := by
  injection e with e
  exact nkVs_inj ha hb e
theorem nk_depth (v : V) : (nkV v).depth = 0 := by cases v <;> rfl
theorem nk_depthAll : ∀ k : List V, NestedKey.depthAll (k.map nkV) = 0
  | [] => rfl
  | v :: k => by
    show max (nkV v).depth (NestedKey.depthAll (k.map nkV)) = 0
    rw [nk_depth, nk_depthAll k]
    rfl
theorem nkT_depth (k : List V) : (nkT k).depth ≤ 8 := by
  show NestedKey.depthAll (k.map nkV) + 1 ≤ 8
  rw [nk_depthAll]
  decide
theorem nestedIs_of {h : Heap} {v : V} {u : Value} (hk : kfl v = true) (r : RelV v u) : NestedIs h (nkV v) u := by
  cases v with
  | non => cases (show u = Value.none from r); exact .none
  | int i => obtain ⟨t, rfl⟩ := r; exact .int i t
  | str x => obtain ⟨t, rfl⟩ := r; exact .text x t
  | _ => cases hk
theorem nestedAll_of {h : Heap} : ∀ {k : List V} {us : List Value}, k.all kfl = true → Vals k us → NestedAll h (k.map nkV) us
  | _, _, _, .nil => .nil
  | _ :: _, _, hk, .cons r t => by
    rw [List.all_cons, Bool.and_eq_true] at hk
    exact .cons (nestedIs_of hk.1 r) (nestedAll_of hk.2 t)
theorem key_is {P : Program} {w : World} {H : Hp} {h : Heap} {a : Addr} {k : List V} (ok : HOk P w H h) (ha : H a = some (.tup k)) (hk : k.all kfl = true) : (nestedKind P w).is h (nkT k) a := by
  obtain ⟨_, its, r, o, h1, h2, n, h3⟩ := ok a _ ha
  exact ⟨.tup h1 h2 h3 (nestedAll_of hk (by simpa using r)), nkT_depth k⟩

/-! ### the dict as an object -/
def dnO (P : Program) (w : World) (d : Addr) (xs : List (NestedKey × Addr × Value)) : HO := .ext fun h => (d == sysModules) = false ∧ xs.length ≤ sizeLine ∧
  ∃ o es ep, h.get? d = some o ∧ o.ExactDict ∧ o.data = .dict es ep ∧ es.toList = xs.map (entryOfKey (nestedKind P w)) ∧ (xs.map (·.1)).Nodup
theorem dnO_ok {P : Program} {w : World} {H : Hp} {h : Heap} {d : Addr} {xs : List (NestedKey × Addr × Value)} (hd : (d == sysModules) = false) (hl : xs.length ≤ sizeLine) (x : h.DictOfH (nestedKind P w) d xs) : ObjOk P w H h d (dnO P w d xs) := by
  obtain ⟨o, es, ep, h1, h2, h3, h4, _, h5⟩ := x
  exact ⟨⟨hd, hl, o, es, ep, h1, h2, h3, h4, h5⟩, ⟨o, h1⟩, fun a b ⟨e1, e2, o, es, ep, q1, q2⟩ k => ⟨e1, e2, o, es, ep, k o q1, q2⟩⟩
/-- one entry: the key's items, where its tuple stands, the value -/
abbrev NEn := List V × Addr × V
def NRel (e : NEn) (x : NestedKey × Addr × Value) : Prop := x.1 = nkT e.1 ∧ x.2.1 = e.2.1 ∧ RelV e.2.2 x.2.2
def NKeys (H : Hp) (es : List NEn) : Prop := ∀ e ∈ es, e.1.all kfl = true ∧ H e.2.1 = some (.tup e.1)
/-- at d stands a dict with these entries -/
def NDict (P : Program) (w : World) (H : Hp) (d : Addr) (es : List NEn) : Prop := ∃ xs, H d = some (dnO P w d xs) ∧ Paired NRel es xs ∧ NKeys H es
def getN (es : List NEn) (k : List V) : Option V := (es.find? fun e => decide (e.1 = k)).map (·.2.2)
def delN (es : List NEn) (k : List V) : List NEn := es.filter fun e => decide (e.1 ≠ k)
theorem NKeys.keep {H H' : Hp} {es : List NEn} {d : Addr} {o : HO} (x : NKeys H es) (hd : H d = some o) (ho : ∀ k, o ≠ .tup k) (k : ∀ c u, c ≠ d → H c = some u → H' c = some u) : NKeys H' es := fun e he => by
  obtain ⟨h1, h2⟩ := x e he
  exact ⟨h1, k _ _ (ne_of h2 hd fun z => ho _ z.symm) h2⟩
theorem NDict.ext {P : Program} {w : World} {H H' : Hp} {d : Addr} {es : List NEn} (x : NDict P w H d es) (k : ∀ c u, H c = some u → H' c = some u) : NDict P w H' d es := by
  obtain ⟨xs, h1, h2, h3⟩ := x
  exact ⟨xs, k _ _ h1, h2, fun e he => ⟨(h3 e he).1, k _ _ (h3 e he).2⟩⟩
theorem paired_atKey {k : List V} (hk : k.all kfl = true) : ∀ {es : List NEn} {xs : List (NestedKey × Addr × Value)}, Paired NRel es xs → (∀ e ∈ es, e.1.all kfl = true) →
    match getN es k, atKey xs (nkT k) with
    | some v, some p => RelV v p.2
    | none, none => True
    | _, _ => False
  | [], [], _, _ => by simp [getN, atKey]
  | e :: es, x :: xs, .cons r t, hf => by
    have ih := paired_atKey hk t fun z hz => hf z (List.mem_cons_of_mem _ hz)
    have hk0 := hf e (List.mem_cons_self ..)
    by_cases q : e.1 = k
    · have q2 : x.1 = nkT k := by rw [r.1, q]
      have g1 : getN (e :: es) k = some e.2.2 := by simp [getN, List.find?_cons, q]
      have g2 : atKey (x :: xs) (nkT k) = some x.2 := by simp [atKey, List.find?_cons, q2]
      rw [g1, g2]
      exact r.2.2
    · have q2 : ¬ x.1 = nkT k := fun z => q (nkT_inj hk0 hk (r.1.symm.trans z))
      have g1 : getN (e :: es) k = getN es k := by simp [getN, List.find?_cons, q]
      have g2 : atKey (x :: xs) (nkT k) = atKey xs (nkT k) := by simp [atKey, List.find?_cons, q2]
      rw [g1, g2]
      exact ih
theorem paired_without {k : List V} (hk : k.all kfl = true) : ∀ {es : List NEn} {xs : List (NestedKey × Addr × Value)}, Paired NRel es xs → (∀ e ∈ es, e.1.all kfl = true) → Paired NRel (delN es k) (withoutH xs (nkT k))
  | [], [], _, _ => .nil
  | e :: es, x :: xs, .cons r t, hf => by
    have ih := paired_without hk t fun z hz => hf z (List.mem_cons_of_mem _ hz)
    have hk0 := hf e (List.mem_cons_self ..)
    by_cases q : e.1 = k
    · have q2 : x.1 = nkT k := by rw [r.1, q]
      have g1 : delN (e :: es) k = delN es k := by simp [delN, List.filter_cons, q]
      have g2 : withoutH (x :: xs) (nkT k) = withoutH xs (nkT k) := by simp [withoutH, List.filter_cons, q2]
      rw [g1, g2]
      exact ih
    · have q2 : ¬ x.1 = nkT k := fun z => q (nkT_inj hk0 hk (r.1.symm.trans z))
      have g1 : delN (e :: es) k = e :: delN es k := by simp [delN, List.filter_cons, q]
      have g2 : withoutH (x :: xs) (nkT k) = x :: withoutH xs (nkT k) := by simp [withoutH, List.filter_cons, q2]
      rw [g1, g2]
      exact .cons r ih
theorem paired_snoc {es : List NEn} {xs : List (NestedKey × Addr × Value)} {e : NEn} {x : NestedKey × Addr × Value} (h : Paired NRel es xs) (r : NRel e x) : Paired NRel (es ++ [e]) (xs ++ [x]) := by
  induction h with
  | nil => exact .cons r .nil
  | cons r' _ ih => exact .cons r' ih

section
variable {X : Cx} {pins : List (Addr × Obj)} {σ : L2.St} {H : Hp} {s : Shared} {d : Addr} {es : List NEn}
/-- what the library's rules ask -/
theorem nd_at (I : Inv X pins σ H s) (x : NDict X.prog X.w H d es) : ∃ xs, H d = some (dnO X.prog X.w d xs) ∧ Paired NRel es xs ∧ NKeys H es ∧ (d == sysModules) = false ∧ xs.length ≤ sizeLine ∧ s.heap.DictOfH (nestedKind X.prog X.w) d xs := by
  obtain ⟨xs, h1, h2, h3⟩ := x
  obtain ⟨⟨q1, q2, o, es', ep, q3, q4, q5, q6, q7⟩, _⟩ := I.hok d _ h1
  refine ⟨xs, h1, h2, h3, q1, q2, o, es', ep, q3, q4, q5, q6, fun y hy => ?_, q7⟩
  obtain ⟨j, hj⟩ := List.mem_iff_getElem?.mp hy
  have hjl : j < es.length := by
    rw [Paired.length h2]
    exact (List.getElem?_eq_some_iff.mp hj).1
  obtain ⟨y', hy', r⟩ := LiI.paired_get h2 (List.getElem?_eq_getElem hjl)
  rw [hj] at hy'
  cases hy'
  obtain ⟨k1, k2⟩ := h3 _ (List.getElem_mem hjl)
  rw [r.1, r.2.1]
  exact key_is I.hok k2 k1
theorem nd_ne {k : List V} {a : Addr} {xs : List (NestedKey × Addr × Value)} (h1 : H d = some (dnO X.prog X.w d xs)) (h2 : H a = some (.tup k)) : a ≠ d := ne_of h2 h1 fun z => nomatch z
/-- the dict is changed -/
theorem nd_write {xs xs' : List (NestedKey × Addr × Value)} {h' : Heap} {t' : Nat} (I : Inv X pins σ H s) (h1 : H d = some (dnO X.prog X.w d xs)) (hd : (d == sysModules) = false) (hl : xs'.length ≤ sizeLine) (x : h'.DictOfH (nestedKind X.prog X.w) d xs') (hs : Heap.SameBut d s.heap h') :
    Inv X pins σ (upd H d (dnO X.prog X.w d xs')) { s with heap := h', toks := t' } := by
  obtain ⟨o, e1, e2, h3, _⟩ := id x
  exact I.write (e := d) (t' := t') (by rw [h1]; trivial) (.inl rfl) (fun b u hb hu => (hs.2 b hb).trans hu) ⟨o, h3⟩ (dnO_ok hd hl x)
end

/-! ### {} -/
def tNNew (P : Program) (w : World) : TE := fun _ H Q => ∀ p, H p = none → NDict P w (upd H p (dnO P w p [])) p [] → Q (.ref p) (upd H p (dnO P w p []))
theorem pe_nnew {X : Cx} {pos : Pos} : PE X (.Dict [] [] pos) (tNNew X.prog X.w) := by
  refine ⟨fun pins s σ H Q I h => ?_⟩
  have hb : ((s.heap.objs.size : Addr) == sysModules) = false := by
    have := I.big
    exact beq_eq_false_iff_ne.mpr (Nat.ne_of_gt this)
  exact wpAny_Dict_empty ⟨.ref s.heap.objs.size, _, I.laid (a := s.heap.objs.size) (o := dnO X.prog X.w s.heap.objs.size []) (t' := s.toks) (fun _ _ q => Heap.get?_push_of_some _ q) (Nat.le_refl _)
    (dnO_ok hb (Nat.zero_le _) (Heap.DictOfH.new s.heap)), rfl, h _ (I.hok.fresh (Nat.le_refl _)) ⟨[], upd_same, .nil, fun e he => by cases he⟩⟩

/-! ### d.pop(k) -/
def tNPop (P : Program) (w : World) (td ty : TE) : TE := fun σ H Q => td σ H fun x H1 => ∃ d es0, x = .ref d ∧ NDict P w H1 d es0 ∧ ty σ H1 fun y H2 => ∃ b k v es, y = .ref b ∧ H2 b = some (.tup k) ∧ k.all kfl = true ∧ NDict P w H2 d es ∧ getN es k = some v ∧
  ∀ H3, NDict P w H3 d (delN es k) → (∀ c u, c ≠ d → H2 c = some u → H3 c = some u) → (∀ c, H3 c = none → H2 c = none) → Q v H3
section
variable {X : Cx} {o e f : Expr} {td ty tx : TE} {apos cpos pos : Pos} {k : Nat}
theorem upd_none {H : Hp} {d c : Addr} {o : HO} (h : upd H d o c = none) : H c = none := by
  by_cases e : c = d
  · rw [e, upd_same] at h
    cases h
  · rwa [upd_ne e] at h
theorem pe_npop (hr : Room k X.A) (ho : PE X o td) (he : PE X e ty) (m : M1 X o "pop" apos e cpos) : PE X (.Call (.Attribute o "pop" apos) [e] [] cpos) (tNPop X.prog X.w td ty) := by
  refine ⟨fun pins s σ H Q I h => ?_⟩
  refine wpAny_Call_method m.base m.few m.line PySem.F.plainAttrs_dict PySem.F.slot_dict_pop PySem.F.type_dict_pop (thn (ho.run pins s σ H _ I h) fun u s1 ⟨x, H1, I1, rx, d, es0, ex, nd, q1⟩ => ?_)
  subst ex
  obtain rfl : u = Value.ref d := rx
  obtain ⟨xs0, z1, z2, z3, z4, z5, z6⟩ := nd_at I1 nd
  refine ⟨z6.typeIs, fun b q => ?_, ?_⟩
  · cases q
    obtain ⟨ob, _, _, h1, h2, _⟩ := z6
    exact ⟨ob, h1, h2.2.1⟩
  rw [m.trees]
  refine Calls.callWith_builtin rfl (Calls.evalArgs_plain (Calls.spliced_cons (thn (he.run pins s1 σ H1 _ I1 q1) fun iv s2 ⟨y, H2, I2, ry, b, kk, v, es, ey, hb, hk, nd2, hv, q2⟩ => Calls.spliced_nil ?_)))
  subst ey
  obtain rfl : iv = Value.ref b := ry
  obtain ⟨xs, y1, y2, y3, y4, y5, y6⟩ := nd_at I2 nd2
  have pk := paired_atKey hk y2 fun z hz => (y3 z hz).1
  rw [hv] at pk
  cases hp : atKey xs (nkT kk) with
  | none =>
    rw [hp] at pk
    exact pk.elim
  | some p =>
    rw [hp] at pk
    refine call_pop_heap (more := []) (.inl rfl) (PySem.F.args_dict_pop_2 _ _) (knd := nestedKind X.prog X.w) (show X.A.in1.units + 8 < cLine from by have := hr.units; show X.A.units + 1 + 8 < cLine; omega) (key_is I2.hok hb hk) y4 y6 hp (fun h' hm hs => ?_) y5
    have hlen : (withoutH xs (nkT kk)).length ≤ sizeLine := Nat.le_trans (List.length_filter_le _ _) y5
    refine ⟨v, _, nd_write I2 y1 y4 hlen hm hs, pk, q2 _ ⟨_, upd_same, paired_without hk y2 fun z hz => (y3 z hz).1, fun z hz => ?_⟩ (fun c u hc hu => by rw [upd_ne hc]; exact hu) fun c hc => upd_none hc⟩
    obtain ⟨k1, k2⟩ := y3 z (List.mem_filter.mp hz).1
    exact ⟨k1, by rw [upd_ne (nd_ne y1 k2)]; exact k2⟩
/-! ### d.setdefault(k, v) -/
def tNSetd (P : Program) (w : World) (td ty tx : TE) : TE := fun σ H Q => td σ H fun x H1 => ∃ d es0, x = .ref d ∧ NDict P w H1 d es0 ∧ ty σ H1 fun y H2 => tx σ H2 fun z H3 => ∃ b k es, y = .ref b ∧ H3 b = some (.tup k) ∧ k.all kfl = true ∧ NDict P w H3 d es ∧ es.length < sizeLine ∧
  (∀ v, getN es k = some v → Q v H3) ∧ (getN es k = none → ∀ H4, NDict P w H4 d (es ++ [(k, b, z)]) → (∀ c u, c ≠ d → H3 c = some u → H4 c = some u) → (∀ c, H4 c = none → H3 c = none) → Q z H4)
theorem pe_nsetd (hr : Room k X.A) (ho : PE X o td) (he : PE X e ty) (hf : PE X f tx) (m : M2 X o "setdefault" apos e f cpos) : PE X (.Call (.Attribute o "setdefault" apos) [e, f] [] cpos) (tNSetd X.prog X.w td ty tx) := by
  refine ⟨fun pins s σ H Q I h => ?_⟩
  refine wpAny_Call_method m.base m.few m.line PySem.F.plainAttrs_dict PySem.F.slot_dict_setdefault PySem.F.type_dict_setdefault (thn (ho.run pins s σ H _ I h) fun u s1 ⟨x, H1, I1, rx, d, es0, ex, nd, q1⟩ => ?_)
  subst ex
  obtain rfl : u = Value.ref d := rx
  obtain ⟨xs0, z1, z2, z3, z4, z5, z6⟩ := nd_at I1 nd
  refine ⟨z6.typeIs, fun b q => ?_, ?_⟩
  · cases q
    obtain ⟨ob, _, _, h1, h2, _⟩ := z6
    exact ⟨ob, h1, h2.2.1⟩
  rw [m.trees]
  refine Calls.callWith_builtin rfl (Calls.evalArgs_plain (Calls.spliced_cons (thn (he.run pins s1 σ H1 _ I1 q1) fun iv s2 ⟨y, H2, I2, ry, q2⟩ =>
    Calls.spliced_cons (thn (hf.run pins s2 σ H2 _ I2 q2) fun fv s3 ⟨z, H3, I3, rz, b, kk, es, ey, hb, hk, nd2, hl, q3, q4⟩ => Calls.spliced_nil ?_))))
  subst ey
  obtain rfl : iv = Value.ref b := ry
  obtain ⟨xs, y1, y2, y3, y4, y5, y6⟩ := nd_at I3 nd2
  have pk := paired_atKey hk y2 fun z hz => (y3 z hz).1
  refine call_setdefault_heap (knd := nestedKind X.prog X.w) (show X.A.in1.units + 8 < cLine from by have := hr.units; show X.A.units + 1 + 8 < cLine; omega) (key_is I3.hok hb hk) y4 y6 (fun p hp => ?_) (fun hn h' hm hs => ?_) y5
  · rw [hp] at pk
    cases hv : getN es kk with
    | none =>
      rw [hv] at pk
      exact pk.elim
    | some v =>
      rw [hv] at pk
      exact ⟨v, H3, I3.tok _, pk, q3 v hv⟩
  · rw [hn] at pk
    cases hv : getN es kk with
    | some v =>
      rw [hv] at pk
      exact pk.elim
    | none =>
      rw [storedH_new hn] at hm
      have hlen : (xs ++ [(nkT kk, b, fv)]).length ≤ sizeLine := by
        rw [List.length_append, ← Paired.length y2]
        exact hl
      refine ⟨z, _, nd_write I3 y1 y4 hlen hm hs, rz, q4 hv _ ⟨_, upd_same, paired_snoc y2 ⟨rfl, rfl, rz⟩, fun w hw => ?_⟩ (fun c u hc hu => by rw [upd_ne hc]; exact hu) fun c hc => upd_none hc⟩
      rcases List.mem_append.mp hw with hw | hw
      · obtain ⟨k1, k2⟩ := y3 w hw
        exact ⟨k1, by rw [upd_ne (nd_ne y1 k2)]; exact k2⟩
      · obtain rfl := List.mem_singleton.mp hw
        exact ⟨hk, by rw [upd_ne (nd_ne y1 hb)]; exact hb⟩
end
end CB
end
section
set_option maxHeartbeats 4000000
/-! such dicts walked: list(d), list(d.items()), for k, v in d.items() -/
namespace CB
open PySem PySem.Spec PyProof.Rows L2 PySem.W
section
variable {X : Cx} {pins : List (Addr × Obj)} {σ : L2.St} {H : Hp} {s : Shared} {d : Addr}
theorem raw_of {xs : List (NestedKey × Addr × Value)} (x : s.heap.DictOfH (nestedKind X.prog X.w) d xs) : ∃ ens ep, s.heap.DictRaw d ens ep ∧ ens.toList = xs.map (entryOfKey (nestedKind X.prog X.w)) := by
  obtain ⟨o, ens, ep, h1, h2, h3, h4, _⟩ := x
  exact ⟨ens, ep, ⟨o, h1, h2, h3⟩, h4⟩
theorem ent_get {P : Program} {w : World} {xs : List (NestedKey × Addr × Value)} {ens : Array DictEntry} (h : ens.toList = xs.map (entryOfKey (nestedKind P w))) {i : Nat} (hi : i < ens.size) : ∃ y, xs[i]? = some y ∧ ens[i].key = .ref y.2.1 ∧ ens[i].val = y.2.2 := by
  have q : ens.toList[i]? = some ens[i] := by rw [Array.getElem?_toList, Array.getElem?_eq_getElem hi]
  rw [h, List.getElem?_map] at q
  cases e : xs[i]? with
  | none =>
    rw [e] at q
    cases q
  | some y =>
    rw [e] at q
    have q : entryOfKey (nestedKind P w) y = ens[i] := Option.some.inj q
    exact ⟨y, rfl, by rw [← q]; rfl, by rw [← q]; rfl⟩
theorem ent_size {P : Program} {w : World} {xs : List (NestedKey × Addr × Value)} {ens : Array DictEntry} (h : ens.toList = xs.map (entryOfKey (nestedKind P w))) : ens.size = xs.length := by
  rw [← Array.length_toList, h, List.length_map]

/-! ### list(d) -/
def rListN (P : Program) (w : World) : List V → Hp → VK → Prop := fun vs H Q => ∃ d es, vs = [.ref d] ∧ NDict P w H d es ∧ ∀ p, H p = none → Q (.ref p) (upd H p (.lst (es.map fun e => V.ref e.2.1)))
theorem refs_of {es : List NEn} {xs : List (NestedKey × Addr × Value)} (h : Paired NRel es xs) : Vals (es.map fun e => V.ref e.2.1) (xs.map fun x => Value.ref x.2.1) := by
  induction h with
  | nil => exact .nil
  | cons r _ ih => exact .cons (by show Value.ref _ = _; rw [r.2.1]) ih
theorem call_listN (hc : X.calm = true) : CallR X (.type "list") (rListN X.prog X.w) := by
  intro pins s σ H vs us Q I r h
  obtain ⟨d, es, rfl, nd, q⟩ := h
  obtain ⟨u, rfl, ru⟩ := vals1 r
  obtain rfl : u = Value.ref d := ru
  obtain ⟨xs, h1, h2, h3, h4, h5, h6⟩ := nd_at I nd
  obtain ⟨ens, ep, hm, he⟩ := raw_of h6
  have hz := ent_size he
  refine kdl_call (KdlSrc.rawDict (es := ens) (ep := ep) h4) (I.ok.hd hc) hm (by omega) fun h' tk acc c kp e it => ?_
  have ea : acc.toList = xs.map fun x => Value.ref x.2.1 := by
    refine List.ext_getElem (by rw [Array.length_toList, it.1, hz, List.length_map]) fun j j1 j2 => ?_
    obtain ⟨hj, hv⟩ := it.2 j acc.toList[j] (by rw [← Array.getElem?_toList, List.getElem?_eq_getElem j1])
    obtain ⟨y, hy, hk, _⟩ := ent_get he hj
    rw [hv, hk, List.getElem_map]
    rw [List.getElem?_eq_getElem (by rw [← hz]; exact hj)] at hy
    rw [Option.some.inj hy]
  have hlen : (es.map fun e => V.ref e.2.1).length ≤ sizeLine := by rw [List.length_map, Paired.length h2]; exact h5
  refine ⟨.ref s.heap.objs.size, _, I.laid (t' := tk) (o := .lst (es.map fun e => V.ref e.2.1)) kp (Nat.le_refl _) ⟨hlen, acc.toList, c, ?_, ?_⟩, rfl, q _ (I.hok.fresh (Nat.le_refl _))⟩
  · rw [ea]
    exact refs_of h2
  · rw [Array.toArray_toList]
    exact e

/-! ### list(d.items()) -/
def rItemsN (P : Program) (w : World) : V → Hp → VK → Prop := fun x H Q => ∃ d es, x = .ref d ∧ NDict P w H d es ∧
  ∀ H' p ts, (∀ c u, H c = some u → H' c = some u) → H p = none → H' p = some (.lst (ts.map V.ref)) → Paired (fun (t : Addr) (e : NEn) => H' t = some (.tup [.ref e.2.1, e.2.2])) ts es → Q (.ref p) H'
def putN : Hp → List Addr → List NEn → Hp
  | H, a :: as, e :: es => putN (upd H a (.tup [.ref e.2.1, e.2.2])) as es
  | H, _, _ => H
theorem putN_off {b : Addr} : ∀ (as : List Addr) (es : List NEn) (H : Hp), b ∉ as → putN H as es b = H b
  | [], _, _, _ => rfl
  | _ :: _, [], _, _ => rfl
  | a :: as, e :: es, H, h => by
    rw [List.mem_cons, not_or] at h
    show putN (upd H a (.tup [.ref e.2.1, e.2.2])) as es b = H b
    rw [putN_off as es _ h.2, upd_ne h.1]
theorem putN_at : ∀ (as : List Addr) (es : List NEn) (H : Hp), as.length = es.length → as.Nodup → Paired (fun (t : Addr) (e : NEn) => putN H as es t = some (.tup [.ref e.2.1, e.2.2])) as es
  | [], [], _, _, _ => .nil
  | a :: as, e :: es, H, hl, hn => by
    obtain ⟨n1, n2⟩ := List.nodup_cons.mp hn
    refine .cons ?_ (putN_at as es (upd H a (.tup [.ref e.2.1, e.2.2])) (Nat.succ.inj hl) n2)
    show putN (upd H a (.tup [.ref e.2.1, e.2.2])) as es a = _
    rw [putN_off as es _ n1, upd_same]
theorem itemsN_laid {es : List NEn} {xs : List (NestedKey × Addr × Value)} {ens : Array DictEntry} {h' : Heap} {tk c : Nat} {acc : Array Value} {as : List Addr} (I : Inv X pins σ H s) (hz : es.length ≤ sizeLine) (pr : Paired NRel es xs) (he : ens.toList = xs.map (entryOfKey (nestedKind X.prog X.w)))
    (hk : ∀ b o, s.heap.get? b = some o → h'.get? b = some o) (hS : h'.get? s.heap.objs.size = some { cls := .type "list", dict := none, data := .seq acc c, slots := #[] }) (hl : as.length = ens.size) (hG : DilG ens s.heap.objs.size h' as) (hacc : acc.toList = as.map Value.ref) :
    ∃ H' : Hp, (∀ b u, H b = some u → H' b = some u) ∧ H' s.heap.objs.size = some (.lst (as.map V.ref)) ∧ Paired (fun (t : Addr) (e : NEn) => H' t = some (.tup [.ref e.2.1, e.2.2])) as es ∧ Inv X pins σ H' { s with heap := h', toks := tk } := by
  have lx : es.length = xs.length := Paired.length pr
  have le : ens.size = xs.length := ent_size he
  have hSn : s.heap.objs.size ∉ as := fun z => Nat.lt_irrefl _ (hG.above _ z)
  have nd : as.Nodup := List.Pairwise.imp (fun {a b} (h : a < b) => Nat.ne_of_lt h) hG.rise
  have new : ∀ t ∈ as, H t = none := fun t ht => I.hok.fresh (Nat.le_of_lt (hG.above t ht))
  have newS : H s.heap.objs.size = none := I.hok.fresh (Nat.le_refl _)
  have atP := putN_at as es (upd H s.heap.objs.size (.lst (as.map V.ref))) (by omega) nd
  have off : ∀ b, b ∉ as → b ≠ s.heap.objs.size → putN (upd H s.heap.objs.size (.lst (as.map V.ref))) as es b = H b := fun b h1 h2 => by rw [putN_off as es _ h1, upd_ne h2]
  have kp : ∀ b u, H b = some u → (putN (upd H s.heap.objs.size (.lst (as.map V.ref))) as es) b = some u := fun b u e => by
    rw [off b (fun z => by rw [new b z] at e; cases e) (fun z => by rw [z, newS] at e; cases e)]
    exact e
  have eS : putN (upd H s.heap.objs.size (.lst (as.map V.ref))) as es s.heap.objs.size = some (.lst (as.map V.ref)) := by rw [putN_off as es _ hSn, upd_same]
  refine ⟨_, kp, eS, atP, ?_⟩
  refine I.call' (ch := []) rfl ⟨fun b o q _ _ _ => hk b o q, fun b o q _ _ _ => ⟨o.slots, hk b o q⟩, fun b o q n _ => ?_, fun b o q _ => ⟨o, hk b o q⟩, fun b xs q => kp b _ q, fun b o u q => kp b _ q, fun b ps q => ⟨#[], by rw [kp b _ q]; simp⟩⟩ (fun b u q => ?_) I.bare fun b z => by cases z
  · have hb : b < s.heap.objs.size := Heap.lt_size q
    rw [off b (fun z => absurd hb (Nat.not_lt.mpr (Nat.le_of_lt (hG.above b z)))) (Nat.ne_of_lt hb)]
    exact n
  · by_cases hb : b ∈ as
    · obtain ⟨j, e, e1, e2, e3⟩ := LiI.paired_ix atP hb
      rw [e3] at q
      cases q
      obtain ⟨hj, hT⟩ := hG.pairs j b e1
      obtain ⟨y, hy, k1, k2⟩ := ent_get he hj
      obtain ⟨y', hy', r⟩ := LiI.paired_get pr e2
      rw [hy] at hy'
      cases hy'
      refine ⟨by show 2 ≤ sizeLine; decide, [ens[j].key, ens[j].val], .cons ?_ (.cons ?_ .nil), ⟨_, hT, rfl, _, rfl⟩⟩
      · show ens[j].key = Value.ref e.2.1
        rw [k1, r.2.1]
      · rw [k2]
        exact r.2.2
    · by_cases hb2 : b = s.heap.objs.size
      · subst hb2
        rw [eS] at q
        cases q
        refine ⟨by rw [List.length_map]; omega, acc.toList, c, by rw [hacc]; exact LiI.vals_refs as, ?_⟩
        rw [Array.toArray_toList]
        exact hS
      · rw [off b hb hb2] at q
        exact (I.hok b u q).stay (fun d v _ y => hk d v y) (fun d y => kp d _ y) fun d xs y => kp d _ y
variable {e : Expr} {te : TE} {p apos cpos pos : Pos}
theorem pe_listItemsN (hc : X.calm = true) (he : PE X e te) (hg : Gl X "list") (hm : X.mg "list" = none) (hv : bootBuiltins "list" = some (.type "list")) (hbase : attributeBase e "items" X.env (eval e X.env) = eval e X.env := by rfl) (hline : (apos.endLine == cpos.line) = true := by rfl)
    (hs : starEach [.Call (.Attribute e "items" apos) [] [] cpos] X.env = (false, eval (.Call (.Attribute e "items" apos) [] [] cpos) X.env) :: starEach [] X.env := by rfl) :
    PE X (.Call (.Name "list" p) [.Call (.Attribute e "items" apos) [] [] cpos] [] pos) (fun σ H Q => te σ H fun x H1 => rItemsN X.prog X.w x H1 Q) := by
  refine ⟨fun pins s σ H Q I hq => ?_⟩
  refine wpAny_Call_Name_kw (ld_blt I hg hm hv ?_)
  refine PyProof.Rows.callWith_type1 ?_ hs rfl
  rw [hs]
  show wpAny _ _ (spliced ((false, eval (.Call (.Attribute e "items" apos) [] [] cpos) X.env) :: backTo pos (starEach [] X.env))) _ _ s
  refine Calls.spliced_cons ?_
  refine wpAny_Call_method (T := "dict") (id := "dict.items") hbase rfl hline F.plainAttrs_dict F.slot_dict_items F.type_dict_items (thn (he.run pins s σ H _ I hq) fun u s1 ⟨x, H1, I1, rx, d, es, ex, nd, q⟩ => ?_)
  subst ex
  obtain rfl : u = Value.ref d := rx
  obtain ⟨xs, h1, h2, h3, h4, h5, h6⟩ := nd_at I1 nd
  obtain ⟨ens, ep, hr, hen⟩ := raw_of h6
  have lk : es.length = xs.length := Paired.length h2
  have le := ent_size hen
  have I2 : Inv X pins σ H1 { s1 with heap := s1.heap.push { cls := .type "dict_items", data := .fields #[.ref d] } } := I1.kept (t' := s1.toks) fun b ob q => Heap.get?_push_of_some _ q
  refine ⟨h6.typeIs, fun b q => ?_, ?_⟩
  · cases q
    obtain ⟨ob, _, _, z1, z2, _⟩ := h6
    exact ⟨ob, z1, z2.2.1⟩
  show wpAny _ _ (callWith cpos (.builtin "dict.items") [.ref d] [] []) _ X.xe s1
  refine method_meetsIn F.slot_dict_items F.entry_dict_items rfl (PySem.evalArgs_none ⟨rfl, h6.typeIs, F.args_dict_items_1 _, _, meets_dict_items_raw d h4, ⟨ens, ep, hr⟩, ?_⟩)
  refine Calls.spliced_nil ?_
  refine dil_call (d := d) (es := ens) (ep := ep) (I1.ok.hd hc) ⟨_, Heap.get?_push_size _ rfl, rfl, rfl⟩ (hr.at fun o e => Heap.get?_push_of_some _ e) (by omega) fun h' tk acc c as hk hS hl hG hacc => ?_
  obtain ⟨H', k1, k2, k3, J⟩ := itemsN_laid (tk := tk) I2 (by omega) h2 hen hk hS hl hG hacc
  exact ⟨.ref _, H', J, rfl, q H' _ as k1 (I2.hok.fresh (Nat.le_refl _)) k2 k3⟩

/-! ### for k, v in d.items(), the dict locked -/
def ItN (P : Program) (w : World) (d : Addr) (od : Obj) (xs : List (NestedKey × Addr × Value)) (es : List NEn) : It :=
  ⟨fun i H => H d = some (.frz od (dnO P w d xs)) ∧ i < es.length, fun i H x H' => ∃ T e, es[i]? = some e ∧ x = .ref T ∧ H T = none ∧ H' = upd H T (.tup [.ref e.2.1, e.2.2]), fun i H => H d = some (.frz od (dnO P w d xs)) ∧ es.length ≤ i⟩
theorem frzN {od : Obj} {xs : List (NestedKey × Addr × Value)} (I : Inv X pins σ H s) (h : H d = some (.frz od (dnO X.prog X.w d xs))) :
    (d == sysModules) = false ∧ xs.length ≤ sizeLine ∧ ∃ ens ep, od.data = .dict ens ep ∧ s.heap.DictRaw d ens ep ∧ ens.toList = xs.map (entryOfKey (nestedKind X.prog X.w)) := by
  obtain ⟨h0, ⟨h1, h2, o, ens, ep, h3, h4, h5, h6, _⟩, _⟩ := I.hok d _ h
  rw [h0] at h3
  cases h3
  exact ⟨h1, h2, ens, ep, h5, ⟨_, h0, h4, h5⟩, h6⟩
theorem turn_itemsN {P : Program} {w : World} {K : PySem.W.Frag} {es : List NEn} {xs : List (NestedKey × Addr × Value)} {od : Obj} {ens : Array DictEntry} {ep : Nat} {elts : List Expr} {kk : Nat} {tpos : Pos} (it : Addr) (pr : Paired NRel es xs) (hod : od.data = .dict ens ep) :
    Turn P w K (.Tuple elts kk tpos) (ItN P w d od xs es) [it] it (fun i h => ∃ ok ov, IsItemIter h it d i ens.size ep ok ov) where
  mem := by simp
  obj := fun i h st b hb => by
    obtain rfl : b = it := by simpa using hb
    obtain ⟨ok, ov, e⟩ := st
    exact ⟨_, e, fun v z => nomatch z⟩
  keep := fun i h h' st k => let ⟨ok, ov, e⟩ := st; ⟨ok, ov, k it (by simp) _ e⟩
  item := by
    intro X hP hw hK hc i pins s σ H E I hf st hg
    subst hP hw hK
    obtain ⟨hd, hi⟩ := hg
    obtain ⟨h1, h2, ens', ep', h3, h4, h5⟩ := frzN I hd
    obtain ⟨rfl, rfl⟩ := dict_ep hod h3
    have lk : es.length = xs.length := Paired.length pr
    have le := ent_size h5
    obtain ⟨ok, ov, hit⟩ := st
    have hlt : it < s.heap.objs.size := Heap.lt_size hit
    have hi' : i < ens'.size := by omega
    obtain ⟨y, hy, k1, k2⟩ := ent_get h5 hi'
    have hes : es[i]? = some es[i] := List.getElem?_eq_getElem hi
    obtain ⟨y', hy', r⟩ := LiI.paired_get pr hes
    rw [hy] at hy'
    cases hy'
    refine wpAny_pyNext_items_item_raw hit h4 hi' fun h' ho hT hz hk => ?_
    refine ⟨_, rfl, wpAny_letOwnedTupleGo_items (s := { s with heap := h' }) ho fun h'' he' sb => ?_⟩
    have hT2 := (sb.2 _ (Nat.ne_of_gt hlt)).trans hT
    have new : ObjOk X.prog X.w (upd H s.heap.objs.size (.tup [.ref es[i].2.1, es[i].2.2])) h'' s.heap.objs.size (.tup [.ref es[i].2.1, es[i].2.2]) :=
      ⟨by show 2 ≤ sizeLine; decide, [ens'[i].key, ens'[i].val], .cons (by show ens'[i].key = Value.ref es[i].2.1; rw [k1, r.2.1]) (.cons (by rw [k2]; exact r.2.2) .nil), ⟨_, hT2, rfl, _, rfl⟩⟩
    have I1 : Inv X pins σ (upd H s.heap.objs.size (.tup [.ref es[i].2.1, es[i].2.2])) { s with heap := h'' } :=
      I.turnedNew (t' := s.toks) (ch := [it]) (fun b ob hb e => (sb.2 b (by simpa using hb)).trans (hk b ob (by simpa using hb) e)) hf (Nat.le_refl _) new
    refine ⟨.ref s.heap.objs.size, _, I1, rfl, ⟨_, _, hes, rfl, I.hok.fresh (Nat.le_refl _), rfl⟩, ⟨_, _, he'⟩, fun b hb => ?_⟩
    obtain rfl : b = it := by simpa using hb
    rw [upd_ne (Nat.ne_of_lt hlt)]
    exact (hf b (by simp)).1
  done := by
    intro X hP hw hK hc i pins s σ H E I hf st hg
    subst hP hw hK
    obtain ⟨hd, hi⟩ := hg
    obtain ⟨f0, f1, f2, f3, f4, f5⟩ := hf it (by simp)
    obtain ⟨h1, h2, ens', ep', h3, h4, h5⟩ := frzN I hd
    obtain ⟨rfl, rfl⟩ := dict_ep hod h3
    have lk : es.length = xs.length := Paired.length pr
    have le := ent_size h5
    obtain ⟨ok, ov, hit⟩ := st
    exact wpAny_pyNext_items_end_raw (I.ok.hd hc) hit h4 (by omega) fun h' eb => ⟨rfl, I.turned (t' := s.toks) (fun b ob hb e => eb b ob hb e) f0 f1 f3 f4 f5⟩
  self := fun A i s Q E st h => let ⟨_, _, e⟩ := st; wpAny_pyIter_itemiter e h
def iItemsN (P : Program) (w : World) (td : TE) : TI := fun σ H R => td σ H fun x H1 => ∃ d od xs es, x = .ref d ∧ H1 d = some (.frz od (dnO P w d xs)) ∧ Paired NRel es xs ∧ R (ItN P w d od xs es) H1
theorem pi_itemsN {td : TE} {elts : List Expr} {kk : Nat} {tpos : Pos} (he : PE X e td) (hbase : attributeBase e "items" X.env (eval e X.env) = eval e X.env := by rfl) (hline : (apos.endLine == cpos.line) = true := by rfl) :
    PI X (.Tuple elts kk tpos) (.Call (.Attribute e "items" apos) [] [] cpos) (iItemsN X.prog X.w td) := by
  refine ⟨fun pins s σ H R I h => ?_⟩
  refine wpAny_Call_method (T := "dict") (id := "dict.items") hbase rfl hline F.plainAttrs_dict F.slot_dict_items F.type_dict_items (thn (he.run pins s σ H _ I h) fun u s1 ⟨x, H1, I1, rx, d, od, xs, es, ex, hd, pr, q⟩ => ?_)
  subst ex
  obtain rfl : u = Value.ref d := rx
  obtain ⟨h1, h2, ens, ep, h3, h4, h5⟩ := frzN I1 hd
  have I2 : Inv X pins σ H1 { s1 with heap := s1.heap.push { cls := .type "dict_items", data := .fields #[.ref d] } } := I1.kept (t' := s1.toks) fun b ob q => Heap.get?_push_of_some _ q
  refine ⟨h4.typeIs, fun b q => ?_, ?_⟩
  · cases q
    obtain ⟨ob, z1, z2, _⟩ := h4
    exact ⟨ob, z1, z2.2.1⟩
  have fin : wpAny (model X.prog X.w) X.A (pyIter (.ref s1.heap.objs.size)) (PIE X pins σ (.Tuple elts kk tpos) R) X.xe { s1 with heap := s1.heap.push { cls := .type "dict_items", data := .fields #[.ref d] } } := by
    refine wpAny_pyIter_items_raw (d := d) (es := ens) (ep := ep) ⟨_, Heap.get?_push_size _ rfl, rfl, rfl⟩ (h4.at fun o e => Heap.get?_push_of_some _ e) (pi_one (tk := s1.toks) I2 _ (turn_itemsN _ pr h3) ⟨.none, .none, ?_⟩ q)
    exact Heap.get?_push_size _ rfl
  show wpAny _ _ (callWith cpos (.builtin "dict.items") [.ref d] [] []) _ X.xe s1
  exact method_meetsIn F.slot_dict_items F.entry_dict_items rfl (PySem.evalArgs_none ⟨rfl, h4.typeIs, F.args_dict_items_1 _, _, meets_dict_items_raw d h1, ⟨ens, ep, h4⟩, fin⟩)
end
end CB
end
section
set_option maxHeartbeats 8000000
/-! set(xs) of a list of ints or of texts, and sorted of it: any kind of key that a set can be scanned for -/
namespace CB
open PySem PySem.Spec PyProof.Rows L2

/-! ### lists that go together, in another order -/
theorem paired_perm {α β : Type} {R : α → β → Prop} {l l' : List α} (p : l.Perm l') : ∀ {m : List β}, Paired R l m → ∃ m', Paired R l' m' ∧ m.Perm m' := by
  induction p with
  | nil => intro m h; exact ⟨m, h, .refl _⟩
  | cons x _ ih =>
    intro m h
    cases h with
    | cons r t =>
      obtain ⟨m', h1, h2⟩ := ih t
      exact ⟨_ :: m', .cons r h1, h2.cons _⟩
  | swap x y l =>
    intro m h
    cases h with
    | cons r t =>
      cases t with
      | cons r' t => exact ⟨_ :: _ :: _, .cons r' (.cons r t), .swap _ _ _⟩
  | trans _ _ ih1 ih2 =>
    intro m h
    obtain ⟨m1, h1, h2⟩ := ih1 h
    obtain ⟨m2, h3, h4⟩ := ih2 h1
    exact ⟨m2, h3, h2.trans h4⟩
theorem paired_mem {α β : Type} {R : α → β → Prop} {l : List α} {m : List β} (h : Paired R l m) {x : α} (hx : x ∈ l) : ∃ y, y ∈ m ∧ R x y := by
  obtain ⟨j, y, _, e, r⟩ := LiI.paired_ix h hx
  exact ⟨y, List.mem_of_getElem? e, r⟩
theorem paired_mem' {α β : Type} {R : α → β → Prop} {l : List α} {m : List β} (h : Paired R l m) {y : β} (hy : y ∈ m) : ∃ x, x ∈ l ∧ R x y := by
  induction h with
  | nil => cases hy
  | cons r _ ih =>
    rcases List.mem_cons.mp hy with rfl | hy
    · exact ⟨_, List.mem_cons_self .., r⟩
    · obtain ⟨x, h1, h2⟩ := ih hy
      exact ⟨x, List.mem_cons_of_mem _ h1, h2⟩

section
variable {P : Program} {w : World} {κ : Type} [DecidableEq κ] {knd : KeyKind P w κ} {A : Around} {E : Value → Shared → Prop} {s : Shared} {a : Addr} {ks : List κ}
/-- an entry of a set, the key that it holds -/
def KEn (knd : KeyKind P w κ) (e : Int × Value) (k : κ) : Prop := knd.is k e.2 = true ∧ e.1 = knd.hash k ∧ e.2.scannable = true
/-- the set at a holds just these keys, no one twice; its table can be walked -/
structure SetG (knd : KeyKind P w κ) (h : Heap) (a : Addr) (ks : List κ) : Prop where
  ob : ∃ o es ep t, h.get? a = some o ∧ o.ExactSet ∧ o.data = .set es ep t ∧ (∃ ks', Paired (KEn knd) es.toList ks' ∧ ks'.Perm ks) ∧ t.fits es.size = true ∧ Ris t.place.toList ∧ (w.params.followText "set-order" = true ∨ t.led = true)
  nd : ks.Nodup
  few : ks.length < scanBound
theorem SetG.at {h h' : Heap} (x : SetG knd h a ks) (k : ∀ o, h.get? a = some o → h'.get? a = some o) : SetG knd h' a ks := by
  obtain ⟨⟨o, es, ep, t, ho, r⟩, n, f⟩ := x
  exact ⟨⟨o, es, ep, t, k o ho, r⟩, n, f⟩
theorem SetG.typeIs (x : SetG knd s.heap a ks) : s.TypeIs (.ref a) "set" := by
  obtain ⟨⟨o, es, ep, t, ho, hx, _⟩, _⟩ := x
  exact ⟨o, ho, hx.1⟩
theorem elems_of {l : List (Int × Value)} {m : List κ} (h : Paired (KEn knd) l m) : ElemsOf knd l := fun e he => by
  obtain ⟨k, _, h1, h2, h3⟩ := paired_mem h he
  exact ⟨⟨k, h1, h2⟩, h3⟩
theorem setG_fresh {h : Heap} (ho : h.get? a = some { cls := .type "set", dict := none, data := .set #[] 0 (.fresh 0 0 (!w.params.followText "set-order")) }) : SetG knd h a [] :=
  ⟨⟨_, #[], 0, _, ho, ⟨rfl, rfl, rfl⟩, rfl, ⟨[], .nil, .refl _⟩, rfl, List.Pairwise.nil, by
    show _ ∨ (!w.params.followText "set-order") = true
    cases w.params.followText "set-order"
    · exact .inr rfl
    · exact .inl rfl⟩, List.nodup_nil, by show 0 < 4096; decide⟩

/-- the store at an addition's end -/
theorem setG_tail {g : Bool → Sem Unit} (hg : ∀ (b : Bool) (s₁ : Shared) (Q' : Unit → Shared → Prop), Q' () s₁ → wpAny (model P w) A (g b) Q' E s₁)
    {o : Obj} {es es1 : Array (Int × Value)} {ep : Nat} {t t2 : SetTable} {ks' : List κ} (ho : s.heap.get? a = some o) (hex : o.ExactSet) (hd : o.data = .set es ep t) (pk : Paired (KEn knd) es1.toList ks') (pm : ks'.Perm ks) (nd : ks.Nodup) (few : ks.length < scanBound)
    (hf2 : t2.fits es1.size = true) (hr : Ris t2.place.toList) (hl : w.params.followText "set-order" = true ∨ t2.led = true) {wasDummy : Bool} {R : Option Bool → Shared → Prop}
    (hR : ∀ h', Heap.SameBut a s.heap h' → SetG knd h' a ks → R (some true) { s with heap := h' }) :
    wpAny (model P w) A (do
        storeSet a es1 t2
        if (!wasDummy && t2.tooFull) = true then do
            g (relayAll t2 es1 (SetTable.grown es1.size)).2.2
            storeSet a (relayAll t2 es1 (SetTable.grown es1.size)).1 (relayAll t2 es1 (SetTable.grown es1.size)).2.1
            pure (some true)
          else pure (some true)) R E s := by
  have hz : es1.size = ks.length := by rw [← Array.length_toList, Paired.length pk, pm.length_eq]
  have hb1 : es1.size < scanBound := by rw [hz]; exact few
  refine wpAny_bind (wpAny_storeSet_of ho hd ?_ (fits_of_scanBound hb1))
  have ho1 := L2.store_at (es' := es1) (t' := t2) ho hd
  have sb1 := Heap.SameBut.update s.heap a (Obj.putSet es1 t2)
  cases hc : (!wasDummy && t2.tooFull) with
  | false =>
    rw [if_neg (by decide)]
    exact wpAny_pure (hR _ sb1 ⟨⟨_, es1, _, t2, ho1, hex, rfl, ⟨ks', pk, pm⟩, hf2, hr, hl⟩, nd, few⟩)
  | true =>
    rw [if_pos rfl]
    have q1 := relayAll_perm t2 es1 (SetTable.grown es1.size)
    have q2 := relayAll_fits t2 es1 (SetTable.grown es1.size)
    have q3 := L2.relayAll_ris t2 es1 (SetTable.grown es1.size)
    have q4 := L2.relayAll_led t2 es1 (SetTable.grown es1.size)
    generalize relayAll t2 es1 (SetTable.grown es1.size) = Z at q1 q2 q3 q4 ⊢
    obtain ⟨es2, t3, gave⟩ := Z
    dsimp only at q1 q2 q3 q4 ⊢
    obtain ⟨ks2, pk2, pm2⟩ := paired_perm q1.symm pk
    have hb2 : es2.size < scanBound := by rw [← Array.length_toList, q1.length_eq, Array.length_toList]; exact hb1
    refine wpAny_bind (hg _ _ _ ?_)
    refine wpAny_bind (wpAny_storeSet_of ho1 rfl ?_ (fits_of_scanBound hb2))
    exact wpAny_pure (hR _ (sb1.trans (Heap.SameBut.update _ a _)) ⟨⟨_, es2, _, t3, L2.store_at (es' := es2) (t' := t3) ho1 rfl, hex, rfl, ⟨ks2, pk2, pm2.symm.trans pm⟩, q2, q3, hl.imp id fun z => by rw [q4]; exact z⟩, nd, few⟩)
/-- one key more -/
def addK (ks : List κ) (k : κ) : List κ := if k ∈ ks then ks else k :: ks
theorem setG_add {k : κ} {v : Value} {Q : Bool → Shared → Prop} (x : SetG knd s.heap a ks) (hkey : knd.is k v = true) (hsc : v.scannable = true) (room : ks.length + 1 < scanBound)
    (hQ : ∀ h' r, Heap.SameBut a s.heap h' → SetG knd h' a (addK ks k) → Q r { s with heap := h' }) :
    wpAny (model P w) A (setAddHashed a v (knd.hash k)) Q E s := by
  obtain ⟨⟨o, es, ep, t, ho, hex, hd, ⟨ks', pk, pm⟩, hf, hr, hl⟩, nd, few⟩ := id x
  have hel : ElemsOf knd es.toList := elems_of pk
  have hz : es.size = ks.length := by rw [← Array.length_toList, Paired.length pk, pm.length_eq]
  have hb : es.size < scanBound := by rw [hz]; exact few
  have there : (∃ e ∈ es.toList, knd.is k e.2 = true) ↔ k ∈ ks := by
    constructor
    · rintro ⟨e, he, q⟩
      obtain ⟨k', hk', h1, _⟩ := paired_mem pk he
      rw [knd.inj _ _ _ q h1]
      exact pm.mem_iff.mp hk'
    · intro hk
      obtain ⟨e, he, h1, _⟩ := paired_mem' pk (pm.mem_iff.mpr hk)
      exact ⟨e, he, h1⟩
  unfold setAddHashed setAddHashedIn
  refine wpAny_holding (wpAny_bind (wpAny_setState_of ho hd hf ?_))
  dsimp only
  rw [byScan_of hsc hb hel]
  simp only [↓reduceIte]
  unfold setAddByScan
  refine wpAny_bind (wpAny_bind (wpAny_rule (wpAny_bind (wpAny_setScan_of hkey ho hd hf hel ?_))))
  cases hfi : List.findIdx? (fun e => knd.is k e.2) es.toList with
  | some j =>
    obtain ⟨hj, pj, _⟩ := List.findIdx?_eq_some_iff_getElem.mp hfi
    have hin : k ∈ ks := there.mp ⟨es.toList[j], List.getElem_mem hj, pj⟩
    have q := hQ s.heap false (Heap.SameBut.refl a s.heap) (by unfold addK; rw [if_pos hin]; exact x)
    exact wpAny_pure (wpAny_pure q)
  | none =>
    have hin : k ∉ ks := fun z => by
      obtain ⟨e, he, q⟩ := there.mpr z
      have c := List.findIdx?_eq_none_iff.mp hfi e he
      rw [q] at c
      cases c
    have hgw : ∀ (b : Bool) (s₁ : Shared) (Q' : Unit → Shared → Prop), Q' () s₁ → wpAny (model P w) A (match b with | true => rule "set.scan.the-table-gave-way" | false => pure ()) Q' E s₁ :=
      fun b s₁ Q' q => by cases b <;> first | exact wpAny_pure q | exact wpAny_rule q
    have q1 := layNew_perm t es (knd.hash k) v
    have q2 := layNew_fits t es (knd.hash k) v
    have q3 := L2.layNew_ris t es (knd.hash k) v hr
    have q4 := L2.layNew_led t es (knd.hash k) v
    dsimp only
    generalize layNew t es (knd.hash k) v = Z at q1 q2 q3 q4 ⊢
    obtain ⟨es1, t1, wasDummy, gave⟩ := Z
    dsimp only at q1 q2 q3 q4 ⊢
    rw [Array.toList_push] at q1
    have pc : (((knd.hash k, v) : Int × Value) :: es.toList).Perm es1.toList := ((List.perm_append_singleton _ _).symm.trans q1.symm)
    obtain ⟨ks1, pk1, pm1⟩ := paired_perm pc (Paired.cons (F := KEn knd) (b := k) ⟨hkey, rfl, hsc⟩ pk)
    have nd1 : (k :: ks).Nodup := List.nodup_cons.mpr ⟨hin, nd⟩
    have pm2 : ks1.Perm (k :: ks) := pm1.symm.trans (pm.cons k)
    have hled : w.params.followText "set-order" = true ∨ t1.led = true := hl.imp id fun z => by rw [q4]; exact z
    have fin : ∀ h', Heap.SameBut a s.heap h' → SetG knd h' a (k :: ks) → Q true { s with heap := h' } := fun h' sb r => hQ h' true sb (by unfold addK; rw [if_neg hin]; exact r)
    refine wpAny_bind (hgw _ _ _ ?_)
    split
    · refine wpAny_bind ?_
      rw [hashByValue_scannable 8 hsc]
      refine wpAny_pure ?_
      refine setG_tail (knd := knd) (ks := k :: ks) ?_ ho hex hd pk1 pm2 nd1 room ?_ ?_ ?_ ?_
      · intro b s₁ Q' q; cases b <;> first | exact wpAny_pure q | exact wpAny_rule q
      · first | (split <;> first | exact q2 | exact SetTable.fits_plain_off q2) | exact q2
      · first | (split <;> exact q3) | exact q3
      · first | (split <;> exact hled) | exact hled
      · intro h' sb r; dsimp only; exact wpAny_pure (fin h' sb r)
    · refine wpAny_bind (wpAny_pure ?_)
      simp only [↓reduceIte]
      refine setG_tail (knd := knd) (ks := k :: ks) ?_ ho hex hd pk1 pm2 nd1 room q2 q3 hled ?_
      · intro b s₁ Q' q; cases b <;> first | exact wpAny_pure q | exact wpAny_rule q
      · intro h' sb r; dsimp only; exact wpAny_pure (fin h' sb r)
/-- all keys of a list, from the first on -/
def addKs (ks : List κ) : List κ → List κ
  | [] => ks
  | k :: r => addKs (addK ks k) r
theorem addK_len (ks : List κ) (k : κ) : (addK ks k).length ≤ ks.length + 1 := by
  unfold addK
  split
  · exact Nat.le_succ _
  · exact Nat.le_refl _
theorem mem_addK {ks : List κ} {k j : κ} : j ∈ addK ks k ↔ j = k ∨ j ∈ ks := by
  unfold addK
  split
  · rename_i h
    exact ⟨.inr, fun z => z.elim (fun e => e ▸ h) id⟩
  · exact List.mem_cons
theorem mem_addKs : ∀ {l ks : List κ} {j : κ}, j ∈ addKs ks l ↔ j ∈ ks ∨ j ∈ l
  | [], ks, j => by simp [addKs]
  | k :: r, ks, j => by
    show j ∈ addKs (addK ks k) r ↔ _
    rw [mem_addKs, mem_addK, List.mem_cons]
    constructor
    · rintro ((h | h) | h)
      · exact .inr (.inl h)
      · exact .inl h
      · exact .inr (.inr h)
    · rintro (h | h | h)
      · exact .inl (.inr h)
      · exact .inl (.inl h)
      · exact .inr h
theorem setG_update {I : Addr} {fp wr : List Addr} {G : Array GenState → Array GenState → Prop} {n : Nat} {Pv : Nat → Value → Prop} {St : Nat → Shared → Prop} {R : Result → Shared → Prop}
    (W : WalksS P w A.in1 I fp wr G n Pv St) (S : Addr) (hSf : S ∉ fp) (l : List κ) (hn : n = l.length) (hval : ∀ i v, Pv i v → ∃ k, l[i]? = some k ∧ knd.is k v = true ∧ v.scannable = true) :
    ∀ (r : List κ) (i : Nat) (s : Shared) (ks : List κ), r = l.drop i → i ≤ n → St i s → SetG knd s.heap S ks → ks.length + r.length + 1 < scanBound →
      (∀ s', Moved (S :: wr) G s s' → SetG knd s'.heap S (addKs ks r) → R (.ok (.ret .none)) s') →
      codeAny (model P w) A (.builtin "set.update.loop" ⟨[.ref S, .ref I], []⟩) R s := by
  have hSw : S ∉ wr := fun h => hSf (W.sub _ h)
  have hsub : ∀ b ∈ wr, b ∈ S :: wr := fun b hb => List.mem_cons_of_mem _ hb
  intro r
  induction r with
  | nil =>
    intro i s ks hr hi hst hS hb hR
    have hin : i = n := by
      have := congrArg List.length hr
      rw [List.length_drop, List.length_nil] at this
      omega
    subst hin
    refine codeAny_builtin F.entry_set_update_loop ?_
    rw [Around.under_plainId F.plain_set_update_loop _]
    show wpAny _ A.in1 (pyNext (.ref I) >>= _) _ _ s
    refine wpAny_bind (W.done s _ _ hst fun s' hm => ?_)
    show wpAny _ A.in1 (ret Value.none) _ _ s'
    exact wpAny_pure (hR s' (hm.mono hsub) (hS.at fun o e => hm.heap S o hSw e))
  | cons k r ih =>
    intro i s ks hr hi hst hS hb hR
    have hlt : i < n := by
      have := congrArg List.length hr
      rw [List.length_drop, List.length_cons] at this
      omega
    have hk : l[i]? = some k := by
      have q : (l.drop i)[0]? = some k := by rw [← hr]; rfl
      rw [List.getElem?_drop] at q
      exact q
    have hr' : r = l.drop (i + 1) := by
      have q : (l.drop i).drop 1 = r := by rw [← hr]; rfl
      rw [List.drop_drop] at q
      exact q.symm
    refine codeAny_builtin F.entry_set_update_loop ?_
    rw [Around.under_plainId F.plain_set_update_loop _]
    show wpAny _ A.in1 (pyNext (.ref I) >>= _) _ _ s
    refine wpAny_bind (W.item i s _ _ hlt hst fun v s' hP hst' hm => ?_)
    obtain ⟨k', hk', h1, h2⟩ := hval i v hP
    rw [hk] at hk'
    cases hk'
    have hS' : SetG knd s'.heap S ks := hS.at fun o e => hm.heap S o hSw e
    show wpAny _ A.in1 (holding [v] (setAdd S v) >>= _) _ _ s'
    refine wpAny_bind (wpAny_holding ?_)
    unfold setAdd
    refine wpAny_holding ?_
    refine wpAny_bind (knd.pyHash h1 ?_)
    rw [List.length_cons] at hb
    refine setG_add (s := { s' with toks := s'.toks + 1 }) hS' h1 h2 (by omega) fun h' z hsb hS2 => ?_
    have hl2 := addK_len ks k
    refine wpAny_pure ⟨plainId_quiet F.plain_set_update_loop _, ih (i + 1) _ (addK ks k) hr' hlt (W.frame _ s' _ _ hst' (Nat.le_succ _) fun b hb o e => ?_) hS2 (by omega) fun s'' hm'' hS'' => ?_⟩
    · rw [hsb.2 b (fun h : b = S => hSf (by rw [← h]; exact hb))]; exact e
    · refine hR s'' (Moved.trans W.gtrans ((hm.mono hsub).then_heap (Nat.le_succ _) fun b o hb e => ?_) hm'') hS''
      rw [hsb.2 b (fun h : b = S => hb (by rw [h]; exact List.mem_cons_self))]; exact e
end
end CB
end
section
set_option maxHeartbeats 4000000
/-! len and != of instances by the text's own methods, anywhere below a running body -/
namespace CB
open PySem PySem.Spec PyProof.Rows L2
section
variable {X : Cx} {CX : CXT} {k : Nat} {f C : Addr} {fd : FuncData} {ps : List Str} {sp : Sp} {E : XK}
/-- a def called by a builtin that runs below the body -/
theorem run_sub {A : Around} {pins : List (Addr × Obj)} {σ : L2.St} {H : Hp} {s : Shared} {Q : VK} {us : List Value} {vs : List V} (sb : Sub X k A)
    (F : FnOk X.prog X.w X.K X.mg X.base CX k f fd ps sp) (hb : Binds X.K fd ps []) (hx : Passes CX X E) (I : Inv X pins σ H s) (r : Vals vs us) (h : sp vs H Q E) :
    wpAny (model X.prog X.w) A (call (.ref f) us) (EP X pins σ Q) X.xe s := by
  have hl : (us ++ []).length = ps.length := by
    rw [List.append_nil, ← r.length]
    exact F.len _ _ _ _ h
  have e0 : Env0 X.prog X.w X.K X.mg X.base A X.stack s H := by
    have e := I.env0
    exact ⟨sb.fr.trans e.frames, e.mod, e.bs, e.bsz, e.funs, e.frf, e.hok, e.bare⟩
  have bt := hb s us I.kIn hl
  rw [List.append_nil] at bt
  refine wpAny_call (codeAny_mono (F.run A X.stack s H ⟨us, []⟩ us vs Q E sb.room e0 bt r h) fun z s' hq => ?_)
  match z, hq with
  | .error e, hq => exact hx pins σ H s e s' I hq
  | .ok (.ret u), hq => exact I.after hq
  | .ok .next, hq => exact hq.elim
  | .ok .brk, hq => exact hq.elim
  | .ok .cont, hq => exact hq.elim

/-- len(x) by an own __len__ -/
def rLenO (C : Addr) (sp : Sp) (E : XK) : List V → Hp → VK → Prop := fun xs H Q => ∃ a dx fs, xs = [.ref a] ∧ H a = some (.ins C dx fs) ∧ sp [.ref a] H (fun v H' => ∃ n : Int, v = .int n ∧ 0 ≤ n ∧ n < 2 ^ 63 ∧ Q (.int n) H') E
theorem call_lenO (F : FnOk X.prog X.w X.K X.mg X.base CX k f fd ps sp) (hs : PySem.W.findIn X.K (.ref C) "__len__" = some (some (.ref f))) (hf : PySem.W.isFn X.K (.ref f) = true) (hb : Binds X.K fd ps []) (hx : Passes CX X E) (hr : Room (k + 1) X.A) :
    CallR X (.builtin "len") (rLenO C sp E) := by
  intro pins s σ H xs us Q I r h
  obtain ⟨a, dx, fs, rfl, ha, h⟩ := h
  obtain ⟨u, rfl, ru⟩ := vals1 r
  obtain rfl : u = Value.ref a := ru
  obtain ⟨mA, J, _⟩ := ins_get I.hok ha
  obtain ⟨od, J, _⟩ := J.look
  obtain ⟨m, hF⟩ := I.fr
  refine PySem.W.len_K hF I.ok.mod.kin J hs hf (thn (run_sub (A := X.A.in1) (vs := [.ref a]) ⟨hr.in1, rfl⟩ F hb hx I (.cons rfl .nil) h) fun u s' q => ?_)
  obtain ⟨v, H', I', rv, n, rfl, h0, h1, q⟩ := q
  obtain ⟨t, rfl⟩ := rv
  exact ⟨⟨h0, h1⟩, .int n, H', I'.tok _, ⟨_, rfl⟩, q⟩

/-- x != y of two instances of one class with an own == and object's != -/
theorem ne_own {A : Around} {E' : Value → Shared → Prop} {Q : Value → Shared → Prop} {s : Shared} {K : PySem.W.Frag} {prog : Program} {w : World} {x y L : Addr} {ox oy : Obj} {od od' : Option Obj} {h₀ : Heap} {m : Str → Option Value} (hu : A.units + 1 < cLine)
    (Fm : Fr h₀ L s.heap m) (X₀ : K.In h₀) (I : PySem.W.InstAt s.heap x ox C od) (J : PySem.W.InstAt s.heap y oy C od') (hn : PySem.W.findIn K (.ref C) "__ne__" = some (some (.builtin "object.__ne__"))) (hm : PySem.W.mroIn K C (.type "object") = some true)
    (he : PySem.W.findIn K (.ref C) "__eq__" = some (some (.ref f))) (hf : PySem.W.isFn K (.ref f) = true)
    (h : wpAny (model prog w) A.in1 (call (.ref f) [.ref x, .ref y]) (fun v s' => ∃ b, v = .bool b ∧ Q (.bool (!b)) s') E' s) : wpAny (model prog w) A (richCompare .NotEq (.ref x) (.ref y)) Q E' s := by
  have X := X₀.keeps Fm.keep
  have inst : PySem.W.Looks (model prog w) s.heap (isInstance (.ref x) (.type "object")) true := I.type.andThen (PySem.W.looks_mroIn X hm)
  have body : wpAny (model prog w) A (call (.builtin "object.__ne__") [.ref x, .ref y]) (fun v s' => ∃ b, v = .bool b ∧ Q (.bool b) s') E' s := by
    refine wpAny_call (codeAny_call_builtin (PySem.F.slot_zip_ne).plain PySem.F.cmpEntry_ne (@PySem.W.check_slot (model prog w) _ _ _ "object.__ne__" "object" "__ne__" (.ref x) [.ref y] [] _ PySem.F.cmpKind_ne PySem.F.cmpSplit_ne inst (PySem.F.cmpArgs_ne _ _) ?_))
    unfold Builtin.«object.__ne__»
    refine wpAny_bind (wpAny_pure ?_)
    refine wpAny_bind (wpAny_cRoomFor (show A.in1.units < cLine from hu) ?_)
    refine wpAny_bind (m := callSpecialIfBound? (.ref x) (Str.ofString "__eq__") [.ref y]) (PySem.W.ifBound_K X I he hf (wpAny_mono h (fun v s' hv => ?_) fun _ _ e => e))
    obtain ⟨b, rfl, q⟩ := hv
    refine wpAny_bind (m := truthy (.bool b)) (wpAny_truthy_bool ?_)
    exact wpAny_pure ⟨_, rfl, q⟩
  have one : wpAny (model prog w) A (tryCompare (.ref x) "__ne__" (.ref y)) (fun r s' => ∃ b, r = some (.bool b) ∧ Q (.bool b) s') E' s := by
    unfold tryCompare
    have fin : wpAny (model prog w) A (callSpecialIfBound? (.ref x) "__ne__" [.ref y]) (fun r s' => ∃ b, r = some (.bool b) ∧ Q (.bool b) s') E' s := by
      simp only [callSpecialIfBound?, bindSpecialIfBound?]
      refine wpAny_holding (wpAny_bind (wpAny_bind (wpAny_bind (I.type.here ((PySem.W.looks_findIn X hn).here ?_)))))
      refine wpAny_bind (wpAny_askSetting (wpAny_ite ?_))
      have hbd := (PySem.F.slot_zip_ne).bind (.ref x)
      have go : wpAny (model prog w) A (call (.builtin "object.__ne__") ([.ref x] ++ [.ref y]) >>= fun v => pure (some v)) (fun r s' => ∃ b, r = some (.bool b) ∧ Q (.bool b) s') E' s :=
        wpAny_bind (wpAny_mono body (fun v s' hv => by
          obtain ⟨b, rfl, q⟩ := hv
          exact wpAny_pure ⟨b, rfl, q⟩) fun _ _ e => e)
      split
      · exact wpAny_bind (wpAny_of_eq hbd (wpAny_pure (by exact go)))
      · exact wpAny_tryCatch (wpAny_bind (wpAny_of_eq hbd (wpAny_pure (by exact go))))
    refine wpAny_bind (wpAny_mono fin (fun r s' hv => ?_) fun _ _ e => e)
    obtain ⟨b, rfl, q⟩ := hv
    exact wpAny_pure ⟨b, rfl, q⟩
  unfold richCompare
  simp only [oneThing_ref]
  refine wpAny_holding (wpAny_bind (wpAny_cRoomFor (Nat.lt_of_succ_lt hu) ?_))
  refine wpAny_bind (I.type.here (wpAny_bind (J.type.here ?_)))
  rw [show (Value.ref C != Value.ref C) = false from by simp]
  refine wpAny_bind (wpAny_pure ?_)
  simp only [Bool.false_eq_true, if_false]
  refine wpAny_bind (wpAny_mono one (fun r s' z => ?_) fun _ _ e => e)
  obtain ⟨b, rfl, hq⟩ := z
  exact wpAny_pure hq
def rNeO (C : Addr) (sp : Sp) (E : XK) : R2 := fun x y H Q => ∃ a b dx fs dy gs, x = .ref a ∧ y = .ref b ∧ H a = some (.ins C dx fs) ∧ H b = some (.ins C dy gs) ∧ sp [.ref a, .ref b] H (fun v H' => ∃ t, v = .bl t ∧ Q (.bl (!t)) H') E
theorem op_neO (F : FnOk X.prog X.w X.K X.mg X.base CX k f fd ps sp) (hs : PySem.W.findIn X.K (.ref C) "__eq__" = some (some (.ref f))) (hf : PySem.W.isFn X.K (.ref f) = true) (hn : PySem.W.findIn X.K (.ref C) "__ne__" = some (some (.builtin "object.__ne__")))
    (hm : PySem.W.mroIn X.K C (.type "object") = some true) (hb : Binds X.K fd ps []) (hx : Passes CX X E) (hr : Room (k + 1) X.A) : OpR X (compareOp .NotEq) (rNeO C sp E) := by
  intro pins s σ H x y v u Q I rx ry h
  obtain ⟨a, b, dx, fs, dy, gs, rfl, rfl, ha, hb', h⟩ := h
  obtain rfl : v = Value.ref a := rx
  obtain rfl : u = Value.ref b := ry
  obtain ⟨mA, J, _⟩ := ins_get I.hok ha
  obtain ⟨mB, J', _⟩ := ins_get I.hok hb'
  obtain ⟨od, J, _⟩ := J.look
  obtain ⟨od', J', _⟩ := J'.look
  obtain ⟨m, hF⟩ := I.fr
  refine ne_own (by have := hr.units; omega) hF I.ok.mod.kin J J' hn hm hs hf (thn (run_sub (A := X.A.in1) (vs := [.ref a, .ref b]) ⟨hr.in1, rfl⟩ F hb hx I (.cons rfl (.cons rfl .nil)) h) fun u s' q => ?_)
  obtain ⟨z, H', I', rz, t, rfl, q⟩ := q
  cases rz
  exact ⟨t, rfl, .bl (!t), H', I', rfl, q⟩
end
end CB
end
section
set_option maxHeartbeats 4000000
/-! sorted(xs, key=f), f a def of the text whose answers are pairs of ints -/
namespace CB
open PySem PySem.Spec PyProof.Rows L2
section
variable {X : Cx} {k : Nat} {f C : Addr} {fd : FuncData} {ps : List Str} {sp : Sp}
theorem run_sub0 {A : Around} {pins : List (Addr × Obj)} {σ : L2.St} {H : Hp} {s : Shared} {Q : VK} {us : List Value} {vs : List V} {E' : Value → Shared → Prop} (sb : Sub X k A)
    (F : FnOk X.prog X.w X.K X.mg X.base CX0 k f fd ps sp) (hb : Binds X.K fd ps []) (I : Inv X pins σ H s) (r : Vals vs us) (h : sp vs H Q E0) :
    wpAny (model X.prog X.w) A (call (.ref f) us) (EP X pins σ Q) E' s := by
  have hl : (us ++ []).length = ps.length := by
    rw [List.append_nil, ← r.length]
    exact F.len _ _ _ _ h
  have e0 : Env0 X.prog X.w X.K X.mg X.base A X.stack s H := by
    have e := I.env0
    exact ⟨sb.fr.trans e.frames, e.mod, e.bs, e.bsz, e.funs, e.frf, e.hok, e.bare⟩
  have bt := hb s us I.kIn hl
  rw [List.append_nil] at bt
  refine wpAny_call (codeAny_mono (F.run A X.stack s H ⟨us, []⟩ us vs Q E0 sb.room e0 bt r h) fun z s' hq => ?_)
  match z, hq with
  | .error e, hq => exact (show False from hq).elim
  | .ok (.ret u), hq => exact I.after hq
  | .ok .next, hq => exact hq.elim
  | .ok .brk, hq => exact hq.elim
  | .ok .cont, hq => exact hq.elim

/-- two more records are pinned -/
theorem pin_more {pins more : List (Addr × Obj)} {σ : L2.St} {H : Hp} {s : Shared} (I : Inv X pins σ H s) (h : ∀ p ∈ more, s.heap.get? p.1 = some p.2 ∧ H p.1 = none ∧ p.1 ≠ X.env.locals ∧ p.1 ∉ X.fs ∧ ∀ v, p.2.data ≠ .cell v) : Inv X (more ++ pins) σ H s :=
  ⟨I.ok, I.os, I.bare, I.base, I.loc, I.cell, I.free, I.freeC, fun p hp => by
    rcases List.mem_append.mp hp with hp | hp
    · exact I.pin p (List.mem_append_left _ hp)
    · rcases List.mem_append.mp hp with hp | hp
      · exact h p hp
      · exact I.pin p (List.mem_append_right _ hp), I.hok, I.len⟩
theorem pin_less {pins more : List (Addr × Obj)} {σ : L2.St} {H : Hp} {s : Shared} (I : Inv X (more ++ pins) σ H s) : Inv X pins σ H s :=
  ⟨I.ok, I.os, I.bare, I.base, I.loc, I.cell, I.free, I.freeC, fun p hp => by
    rcases List.mem_append.mp hp with hp | hp
    · exact I.pin p (List.mem_append_left _ hp)
    · exact I.pin p (List.mem_append_right _ (List.mem_append_right _ hp)), I.hok, I.len⟩

/-- a key as data -/
def kD {β : Type} (kx ky : β → Int) (b : β) : PyData := .tuple [.int (kx b), .int (ky b)]
theorem kD_alike {β : Type} (kx ky : β → Int) (bs : List β) : PySem.W.AllAlike (bs.map (kD kx ky)) := PySem.W.AllAlike.of fun a b => by
  show PySem.W.alike (PyData.tuple ([kx a, ky a].map .int)) (PyData.tuple ([kx b, ky b].map .int)) = true
  exact PySem.W.alike_ints _ _
theorem kD_sort {β : Type} (kx ky : β → Int) (bs : List β) : PySem.W.Sortable (bs.map (kD kx ky)) := PySem.W.Sortable.tuples fun b => ⟨_, _, rfl⟩
theorem kD_depth {β : Type} (kx ky : β → Int) (b : β) : (kD kx ky b).depth ≤ 2 := by
  show PyData.depthAll ([kx b, ky b].map .int) + 1 ≤ 2
  rw [PySem.W.depth_ints]
  decide
theorem each_of_paired {α β : Type} {F : α → β → Prop} : ∀ {xs : List α} {ys : List β}, Paired F xs ys → PySem.W.EachIs F xs ys
  | _, _, .nil => .nil
  | _, _, .cons h t => .cons h (each_of_paired t)
theorem each_rel {β : Type} {R : V → β → Prop} : ∀ {xs : List V} {us : List Value} {bs : List β}, Vals xs us → Paired R xs bs → PySem.W.EachIs (fun u b => ∃ x, RelV x u ∧ R x b) us bs
  | _, _, _, .nil, .nil => .nil
  | _, _, _, .cons r t, .cons p q => .cons ⟨_, r, p⟩ (each_rel t q)
theorem rel_each {β : Type} {R : V → β → Prop} : ∀ {us : List Value} {bs : List β}, PySem.W.EachIs (fun u b => ∃ x, RelV x u ∧ R x b) us bs → ∃ xs, Vals xs us ∧ Paired R xs bs
  | _, _, .nil => ⟨[], .nil, .nil⟩
  | _, _, .cons ⟨x, r, p⟩ t => by
    obtain ⟨xs, h1, h2⟩ := rel_each t
    exact ⟨x :: xs, .cons r h1, .cons p h2⟩

/-- what the turns of the key's calls keep -/
def KeyI (X : Cx) (pins : List (Addr × Obj)) (σ : L2.St) (H : Hp) (kz : List PyData) (kS a : Addr) (e1 : Nat) (i : Nat) (s' : Shared) : Prop :=
  ∃ H' kA e, Inv X pins σ H' s' ∧ Ext H H' ∧ FpOk X pins H' kS ∧ FpOk X pins H' a ∧ s'.heap.get? kS = some (PyProof.Rows.seqObj "list" kA e) ∧ s'.heap.get? a = some (PyProof.Rows.seqObj "list" #[] e1) ∧
    PySem.W.EachIs (fun u d => ∃ v, RelV v u ∧ Dp X.K H' v d) kA.toList (kz.take i)
theorem Dp_ext {K : PySem.W.Frag} {H H' : Hp} (e : Ext H H') : ∀ (d : PyData) (v : V), Dp K H v d → Dp K H' v d
  | .none, _, h => by cases h; exact .non
  | .bool _, _, h => by cases h; exact .bl _
  | .int _, _, h => by cases h; exact .int _
  | .str _, _, h => by cases h; exact .str _
  | .list ds, _, h => by
    cases h with
    | lst hs ha => exact .lst (hs.ext e) (all ds _ ha)
  | .tuple ds, _, h => by
    cases h with
    | tup hs ha => exact .tup (hs.ext e) (all ds _ ha)
  | .dict _, _, h => by cases h
where
  all : ∀ (ds : List PyData) (vs : List V), DpAll K H vs ds → DpAll K H' vs ds
    | [], _, h => by cases h; exact .nil
    | d :: ds, _, h => by
      cases h with
      | cons h1 h2 => exact .cons (Dp_ext e d _ h1) (all ds _ h2)
theorem fpExt {pins : List (Addr × Obj)} {H H' : Hp} {b : Addr} (f : FpOk X pins H b) (h : H' b = none) : FpOk X pins H' b := ⟨h, f.2⟩

def rSortedK (K : PySem.W.Frag) (f : Addr) (sp : Sp) : List V → List V → Hp → VK → Prop := fun vs zs H Q => ∃ (β : Type) (bs : List β) (kx ky : β → Int) (R : V → β → Prop) (l : Addr) (xs : List V), vs = [.ref l] ∧ zs = [.ref f] ∧ SqL K H l xs ∧ Paired R xs bs ∧
  (∀ x b, b ∈ bs → R x b → ∀ H', Ext H H' → ∀ Q' : VK, (∀ v H'', Ext H' H'' → Dp K H'' v (kD kx ky b) → Q' v H'') → sp [x] H' Q' E0) ∧
  ∀ ys p H', Ext H H' → H p = none → H' p = some (.lst ys) → Paired R ys (bs.mergeSort (fun a b => decide (kx a < kx b ∨ (kx a = kx b ∧ ky a ≤ ky b)))) → Q (.ref p) H'
theorem cr_sortedK (F : FnOk X.prog X.w X.K X.mg X.base CX0 k f fd ps sp) (hb : Binds X.K fd ps []) (hr : Room (k + 2) X.A) : CallRK X (.builtin "sorted") [Str.ofString "key"] (rSortedK X.K f sp) := by
  intro pins s σ H vs zs us ws Q I r rz h
  obtain ⟨β, bs, kx, ky, R, l, xs, rfl, rfl, hs, hR, hk, q⟩ := h
  obtain ⟨u, rfl, ru⟩ := vals1 r
  obtain rfl : u = Value.ref l := ru
  obtain ⟨w1, rfl, rw1⟩ := vals1 rz
  obtain rfl : w1 = Value.ref f := rw1
  obtain ⟨its, rv, hl, hz⟩ := I.list hs
  have hn : its.length = bs.length := by rw [← rv.length]; exact Paired.length hR
  have hzi : its.length ≤ sizeLine := by rw [← rv.length]; exact hz
  have hE := each_rel rv hR
  show wpAny _ _ (call (.builtin "sorted") [.ref l] [(Str.ofString "key", .ref f)]) _ _ s
  refine PySem.W.sorted_of_sort hl.isList hzi (PyProof.Rows.ksk_s1 _ _) (fun _ => PyProof.Rows.ksk_l1 _ _) fun E' => ?_
  rw [PyProof.Rows.ksk_t1]
  -- the copy at a
  have fa : H (s.heap.objs.size + 1) = none := I.hok.fresh (Nat.le_succ _)
  have pa : FpOk X pins H (s.heap.objs.size + 1) := I.fpOk (Nat.le_succ _) fa
  generalize ea : s.heap.objs.size + 1 = a at fa pa ⊢
  have hoa : (PySem.W.copyHeap s.heap its).get? a = some (PyProof.Rows.seqObj "list" its.toArray 0) := by rw [← ea]; exact PySem.W.copyHeap_at s.heap its
  have ha : a < (PySem.W.copyHeap s.heap its).objs.size := Heap.lt_size hoa
  obtain ⟨e1, ho1⟩ : ∃ e1, ((PySem.W.copyHeap s.heap its).update a (Obj.mapSeq fun _ => (#[] : Array Value))).get? a = some (PyProof.Rows.seqObj "list" #[] e1) := ⟨_, PyProof.Rows.get?_update_seq hoa fun _ => #[]⟩
  have hkS : (((PySem.W.copyHeap s.heap its).update a (Obj.mapSeq fun _ => (#[] : Array Value))).push (PyProof.Rows.seqObj "tuple" its.toArray 0)).objs.size = (PySem.W.copyHeap s.heap its).objs.size + 1 := by rw [Heap.size_push, Heap.size_update]
  have keep : ∀ b o, s.heap.get? b = some o → (PySem.W.sortingHeap (PySem.W.copyHeap s.heap its) a its).get? b = some o := fun b o e => by
    rw [← ea]
    exact PySem.W.sorting_copy_old e
  unfold PyProof.Rows.ksk_tree
  refine wpAny_bind (PyProof.Rows.listItems_at hoa rfl ?_)
  refine wpAny_bind (PyProof.Rows.listUpdate_at hoa rfl ?_ (by rw [List.size_toArray]; exact hzi) (Nat.zero_le _))
  refine wpAny_bind (PyProof.Rows.seqEpoch_at ho1 rfl ?_)
  refine wpAny_bind (wpAny_newTuple ?_ (by show its.length ≤ _; exact hzi))
  refine wpAny_bind (wpAny_newList ?_ (Nat.zero_le _))
  refine wpAny_holding ?_
  generalize eS : (((PySem.W.copyHeap s.heap its).update a (Obj.mapSeq fun _ => (#[] : Array Value))).push (PyProof.Rows.seqObj "tuple" its.toArray 0)).objs.size = kS at hkS ⊢
  have hSs : s.heap.objs.size ≤ kS := by
    rw [hkS]
    have : s.heap.objs.size ≤ (PySem.W.copyHeap s.heap its).objs.size := by omega
    omega
  have fS : H kS = none := I.hok.fresh hSs
  have pS : FpOk X pins H kS := I.fpOk hSs fS
  have hka : kS ≠ a := by omega
  have hg : ∀ b o, s.heap.get? b = some o → (PySem.W.sortingHeap (PySem.W.copyHeap s.heap its) a its).get? b = some o := keep
  have I0 : Inv X pins σ H { s with heap := PySem.W.sortingHeap (PySem.W.copyHeap s.heap its) a its } := I.kept (t' := s.toks) hg
  have g1 : (PySem.W.sortingHeap (PySem.W.copyHeap s.heap its) a its).get? kS = some (PyProof.Rows.seqObj "list" #[] 0) := by
    rw [← eS]
    exact Heap.get?_push_size _ rfl
  have g2 : (PySem.W.sortingHeap (PySem.W.copyHeap s.heap its) a its).get? a = some (PyProof.Rows.seqObj "list" #[] e1) := Heap.get?_push_of_some _ (Heap.get?_push_of_some _ ho1)
  have cell0 : ∀ (o : Obj) (xs : Array Value) (n : Nat), o = PyProof.Rows.seqObj "list" xs n → ∀ v, o.data ≠ .cell v := fun o xs n e v z => by
    rw [e] at z
    cases z
  show wpAny _ _ (PyProof.Rows.ksk_rest a (.ref f) false its.toArray e1 (.ref kS)) _ _ { s with heap := PySem.W.sortingHeap (PySem.W.copyHeap s.heap its) a its }
  unfold PyProof.Rows.ksk_rest
  refine wpAny_bind (wpAny_rule ?_)
  rw [List.forIn_toArray]
  refine wpAny_bind (PyProof.Rows.ksk_fold (KeyI X pins σ H (bs.map (kD kx ky)) kS a e1) its 0 _ ⟨H, #[], 0, I0, Ext.rfl', pS, pa, g1, g2, by rw [List.take_zero]; exact .nil⟩ ?step ?done)
  case step =>
    rintro j x s' hx ⟨H', kA, e, I', ex, fS', fa', gS, ga, ke⟩
    simp only [Nat.zero_add] at ke ⊢
    have hj : j < its.length := (List.getElem?_eq_some_iff.mp hx).1
    have hjb : j < bs.length := by omega
    have hjx : j < xs.length := by rw [rv.length]; exact hj
    obtain ⟨b, hbj⟩ : ∃ b, bs[j]? = some b := ⟨_, List.getElem?_eq_getElem hjb⟩
    obtain ⟨u, hu, ru⟩ := rv.get (List.getElem?_eq_getElem hjx)
    rw [hx] at hu
    cases hu
    obtain ⟨b', hb', hRb⟩ := LiI.paired_get hR (List.getElem?_eq_getElem hjx)
    rw [hbj] at hb'
    cases hb'
    have I2 : Inv X ([(kS, PyProof.Rows.seqObj "list" kA e), (a, PyProof.Rows.seqObj "list" #[] e1)] ++ pins) σ H' s' := pin_more I' fun p hp => by
      rcases List.mem_cons.mp hp with rfl | hp
      · exact ⟨gS, fS'.1, fS'.2.1, fS'.2.2.1, fun v z => by cases z⟩
      · obtain rfl := List.mem_singleton.mp hp
        exact ⟨ga, fa'.1, fa'.2.1, fa'.2.2.1, fun v z => by cases z⟩
    have hzA : kA.size ≤ its.length := by
      have h1 := ke.length
      rw [Array.length_toList, List.length_take, List.length_map] at h1
      omega
    refine wpAny_bind (wpAny_attempt (wpAny_mono (run_sub0 (E' := fun _ _ => False) (A := X.A.in1.in1) (vs := [xs[j]]) ⟨hr.in1.in1, rfl⟩ F hb I2 (.cons ru .nil)
      (hk xs[j] b (List.mem_of_getElem? hbj) hRb H' ex (fun v H'' => Ext H' H'' ∧ Dp X.K H'' v (kD kx ky b)) fun v H'' a1 a2 => ⟨a1, a2⟩)) (fun v s'' he => ?_) fun _ _ hF => hF.elim))
    obtain ⟨vv, H2, I3, rvv, ex2, hd⟩ := he
    have nS := (I3.pin (kS, PyProof.Rows.seqObj "list" kA e) (List.mem_append_right _ (.head _)))
    have na := (I3.pin (a, PyProof.Rows.seqObj "list" #[] e1) (List.mem_append_right _ (.tail _ (.head _))))
    have I4 : Inv X pins σ H2 s'' := pin_less I3
    have s1 := Heap.SameBut.update s''.heap kS (Obj.mapSeq (·.push v))
    obtain ⟨c2, hc2⟩ : ∃ c2, (s''.heap.update kS (Obj.mapSeq (·.push v))).get? kS = some (PyProof.Rows.seqObj "list" (kA.push v) c2) := ⟨_, PyProof.Rows.get?_update_seq nS.1 (·.push v)⟩
    refine wpAny_bind (PyProof.Rows.listUpdate_at nS.1 rfl ?_ (Nat.le_trans hzA hzi) (Nat.le_trans (Nat.le_of_eq (Array.size_push ..)) (Nat.succ_le_succ (Nat.le_trans hzA hzi))))
    have fS2 : FpOk X pins H2 kS := fpExt fS' nS.2.1
    have fa2 : FpOk X pins H2 a := fpExt fa' na.2.1
    refine wpAny_pure ⟨rfl, H2, kA.push v, c2, I4.turned (t' := s''.toks) (fun b o hb e => (s1.2 b hb).trans e) fS2.1 fS2.2.1 fS2.2.2.2.1 fS2.2.2.2.2.1 fS2.2.2.2.2.2, ex.trans ex2, fS2, fa2, hc2, (s1.2 a hka.symm).trans na.1, ?_⟩
    have ek : (bs.map (kD kx ky)).take (j + 1) = (bs.map (kD kx ky)).take j ++ [kD kx ky b] := by
      rw [List.take_add_one, List.getElem?_map, hbj]
      simp
    rw [ek, Array.toList_push]
    exact PySem.W.each_snoc ⟨vv, rvv, hd⟩ (ke.mono fun u d ⟨v', r', d'⟩ => ⟨v', r', Dp_ext ex2 d v' d'⟩)
  case done =>
    rintro s' ⟨H', kA, e, I', ex, fS', fa', gS, ga, ke⟩
    have e3 : (bs.map (kD kx ky)).take (0 + its.length) = bs.map (kD kx ky) := List.take_of_length_le (by rw [List.length_map]; omega)
    rw [e3] at ke
    have hsz : kA.size = its.length := by
      have h1 := ke.length
      rw [Array.length_toList, List.length_map] at h1
      omega
    have kr : PySem.W.EachIs (fun u d => ∃ as, Reads s'.heap u d as) kA.toList (bs.map (kD kx ky)) := ke.mono fun u d ⟨v, rv', hd⟩ => Dp.reads I' d v u hd rv'
    refine wpAny_bind (PyProof.Rows.listItems_at gS rfl ?_)
    refine PySem.W.keyH_end (κ := PySem.W.dataKind s'.heap (bs.map (kD kx ky))) (h₁ := PySem.W.hideAll s'.heap [kS]) (fun b o hb e => PySem.W.of_hideAll [kS] e) (PySem.W.hideAll_none [kS] (by simp)) gS ga hka
      (PySem.W.SortsAt.data kr (kD_alike kx ky bs) (kD_sort kx ky bs) (fun d hd => ?_)) hsz hzi fun h3 tk3 c k3 n3 => ⟨rfl, ?_⟩
    · obtain ⟨b, _, rfl⟩ := List.mem_map.mp hd
      have h1 := kD_depth kx ky b
      have h2 := hr.units
      show X.A.units + 1 + 1 + _ < cLine
      omega
    · have kp3 : ∀ b o, b ∉ [kS, a] → s'.heap.get? b = some o → h3.get? b = some o := fun b o hb e => k3 b o (fun z => hb (by simp [z])) (PySem.W.hideAll_get [kS] e (fun z => hb (by simp at z; simp [z])))
      have I5 : Inv X pins σ H' { s' with heap := h3, toks := tk3 } := I'.turnedL (t' := tk3) (ch := [kS, a]) kp3 fun b hb => by
        rcases List.mem_cons.mp hb with rfl | hb
        · exact fS'
        · obtain rfl := List.mem_singleton.mp hb
          exact fa'
      have ko := PySem.W.keyedOut_each (rev := false) (kD kx ky) ⟨s'.heap, kA.toList, kD_alike kx ky bs, rfl, kr⟩ hE
      obtain ⟨ys, ry, hy⟩ := rel_each ko
      have hly : ys.length ≤ sizeLine := by
        rw [Paired.length hy, (List.mergeSort_perm _ _).length_eq, ← hn]
        exact hzi
      have ns : ∀ b u, H' b = some u → b ≠ a := fun b u e z => by
        rw [z, fa'.1] at e
        cases e
      have J : Inv X pins σ (upd H' a (.lst ys)) { s' with heap := h3, toks := tk3 } := by
        have aS : X.s_0.heap.objs.size ≤ a := by
          have := I.sz
          omega
        refine I5.call' (s' := { s' with heap := h3, toks := tk3 }) (ch := [a]) rfl ⟨fun b o q _ _ _ => q, fun b o q _ _ _ => ⟨o.slots, q⟩, fun b o q n hb => ?_, fun b o q _ => ⟨o, q⟩, fun b xs q => by rw [upd_ne (ns b _ q)]; exact q,
          fun b o u q => by rw [upd_ne (ns b _ q)]; exact q, fun b ps q => ⟨#[], by rw [upd_ne (ns b _ q), q]; simp⟩⟩ (fun b u q => ?_) I5.bare fun b hb => ?_
        · rw [upd_ne (fun z => hb (by simp [z]))]
          exact n
        · by_cases hb : b = a
          · subst hb
            rw [upd_same] at q
            cases q
            exact ⟨hly, _, c, ry, n3⟩
          · rw [upd_ne hb] at q
            exact (I5.hok b u q).stay (fun _ _ _ z => z) (fun c z => by rw [upd_ne (ns c _ z)]; exact z) fun c xs z => by rw [upd_ne (ns c _ z)]; exact z
        · obtain rfl := List.mem_singleton.mp hb
          exact ⟨.inr aS, fa'.2.1, fa'.2.2.2.2.1, fa'.2.2.2.2.2⟩
      refine ⟨.ref a, _, J, rfl, q ys a _ (ex.upd' fa'.1) fa upd_same ?_⟩
      have e9 : PySem.W.dataLe false (kD kx ky) = fun a b => decide (kx a < kx b ∨ (kx a = kx b ∧ ky a ≤ ky b)) := PySem.W.dataLe_ii kx ky
      rw [← e9]
      exact hy
end
end CB
end
section
set_option maxHeartbeats 8000000
/-! set(xs) of a list, sorted(set), sorted(list of data) as rules -/
namespace CB
open PySem PySem.Spec PyProof.Rows L2
section
variable {P : Program} {w : World} {κ : Type} [DecidableEq κ] {knd : KeyKind P w κ} {A : Around} {E : Value → Shared → Prop} {s : Shared}
def IsKey (knd : KeyKind P w κ) (v : Value) (k : κ) : Prop := knd.is k v = true ∧ v.scannable = true
set_option maxRecDepth 100000 in
set_option maxHeartbeats 3200000 in
theorem call_set_listG {l : Addr} {items : Array Value} (ks : List κ) {Q : Value → Shared → Prop} (hh : A.handled = none) (hl : s.heap.IsList l items) (hit : Paired (IsKey knd) items.toList ks) (hb : ks.length + 1 < scanBound)
    (h : ∀ (h' : Heap) (tk : Nat), SetG knd h' s.heap.objs.size (addKs [] ks) → (∀ b o, s.heap.get? b = some o → h'.get? b = some o) → Q (.ref s.heap.objs.size) { s with heap := h', toks := tk }) :
    wpAny (model P w) A (call (.type "set") [.ref l]) Q E s := by
  have hisz : items.size = ks.length := by
    have q := Paired.length hit
    rw [Array.length_toList] at q
    exact q
  obtain ⟨c, tl, hmro⟩ := F.called_set.mro
  have hmade := F.called_set.made
  have hsub := F.called_set.sub
  refine wpAny_call (codeAny_of_tree ?_)
  show wpAny _ _ (callAny (.type "set") _) _ _ _
  refine wpAny_pure ⟨Code.quiet_builtin _ (by decide +kernel), codeAny_builtin F.entry_type_call ?_⟩
  rw [Around.under_plain (weight_type_call_type "set" [.ref l] []) rfl]
  have h1 := F.called_set.notType
  have h2 := F.called_set.canCreate
  have hct := F.typeCall_set_1 (.ref l)
  repeat (any_goals (first | assumption | wp_step))
  refine codeAny_mono (code_set_led1 (.ref l) (E := E) (Q₁ := fun obj s₁ => obj = .ref s.heap.objs.size ∧ s₁ = { s with heap := s.heap.push { cls := .type "set", dict := none, data := .set #[] 0 (.fresh 0 0 (!w.params.followText "set-order")) } }) ⟨rfl, rfl⟩) fun r s₁ hr => ?_
  cases r with
  | error e => exact hr
  | ok fl =>
    cases fl with
    | ret obj =>
      obtain ⟨rfl, rfl⟩ := hr
      have hS : (s.heap.push { cls := .type "set", dict := none, data := .set #[] 0 (.fresh 0 0 (!w.params.followText "set-order")) }).get? s.heap.objs.size = some { cls := .type "set", dict := none, data := .set #[] 0 (.fresh 0 0 (!w.params.followText "set-order")) } := Heap.get?_push_size _ rfl
      have hT : Shared.TypeIs { s with heap := s.heap.push { cls := .type "set", dict := none, data := .set #[] 0 (.fresh 0 0 (!w.params.followText "set-order")) } } (.ref s.heap.objs.size) "set" := ⟨_, hS, rfl⟩
      have hli := F.called_set.init.lookup
      have hbi := F.called_set.init.bind (.ref s.heap.objs.size)
      repeat (any_goals (first | assumption | wp_step))
      refine codeAny_mono (codeAny_call_builtin (R := wants (fun r s₂ => r = .none ∧ ∃ h' tk, s₂ = { s with heap := h', toks := tk } ∧ SetG knd h' s.heap.objs.size (addKs [] ks) ∧
          (∀ b o, s.heap.get? b = some o → h'.get? b = some o)) E) F.called_set.init.plain F.entry_set_init (check_set_init_1 hT ?_)) fun r₂ s₂ hr₂ => ?_
      · obtain ⟨ol, hol, hcl, nl, hdl⟩ := hl
        obtain ⟨ocls, odict, odata, oslots⟩ := ol
        simp only at hcl hdl
        subst hcl; subst hdl
        have hol' : (s.heap.push { cls := .type "set", dict := none, data := .set #[] 0 (.fresh 0 0 (!w.params.followText "set-order")) }).get? l = some { cls := .type "list", dict := odict, data := .seq items nl, slots := oslots } := Heap.get?_push_of_some _ hol
        have hsls := F.sub_list_set
        have hslf := F.sub_list_frozenset
        have hne : (Value.type "list" == Value.type "dict") = false := by decide
        have hl1 : (s.heap.push { cls := .type "set", dict := none, data := .set #[] 0 (.fresh 0 0 (!w.params.followText "set-order")) }).IsList l items := ⟨_, hol', rfl, nl, rfl⟩
        unfold Builtin.«set.__init__» noKeywords Builtin.Frozenset.updateFrom
        generalize hPI : pyIter = PI
        wp_walk
        subst hPI
        refine wpAny_pyIter_list hl1 ?_
        refine wpAny_bind (wpAny_runValue ?_)
        have hlS : l < s.heap.objs.size := Heap.lt_size hol
        have hh3 : A.in1.in1.in1.handled = none := by simp [hh]
        have hneI : l ≠ (s.heap.push { cls := .type "set", dict := none, data := .set #[] 0 (.fresh 0 0 (!w.params.followText "set-order")) }).objs.size := by
          rw [Heap.size_push]; exact Nat.ne_of_lt (Nat.lt_succ_of_lt hlS)
        have hSf : s.heap.objs.size ∉ [(s.heap.push { cls := .type "set", dict := none, data := .set #[] 0 (.fresh 0 0 (!w.params.followText "set-order")) }).objs.size, l] := by
          rw [Heap.size_push]; simp only [List.mem_cons, List.mem_singleton, List.not_mem_nil, or_false, not_or]
          exact ⟨Nat.ne_of_lt (Nat.lt_succ_self _), Nat.ne_of_gt hlS⟩
        have hval : ∀ (i : Nat) (v : Value), items[i]? = some v → ∃ k, ks[i]? = some k ∧ knd.is k v = true ∧ v.scannable = true := fun i v hv => by
          obtain ⟨k, h1, h2⟩ := LiI.paired_get hit (show items.toList[i]? = some v by rw [Array.getElem?_toList]; exact hv)
          exact ⟨k, h1, h2⟩
        refine setG_update ((Walks.list hh3 _ l hneI items).toS) s.heap.objs.size
          hSf ks hisz hval ks 0 _ [] rfl (Nat.zero_le _)
          ⟨⟨_, Heap.get?_push_size _ rfl, rfl, rfl⟩, (hl1.push _)⟩ ?hS0 (by simpa using hb) ?hR
        case hS0 =>
          have hget : ((s.heap.push { cls := .type "set", dict := none, data := .set #[] 0 (.fresh 0 0 (!w.params.followText "set-order")) }).push { cls := .type "list_iterator", data := .fields #[.ref l, .int 0 0] }).get? s.heap.objs.size
              = some { cls := .type "set", dict := none, data := .set #[] 0 (.fresh 0 0 (!w.params.followText "set-order")) } := Heap.get?_push_of_some _ hS
          exact setG_fresh hget
        case hR =>
          intro s' hm hS'
          obtain ⟨h', g2, d', tk', os'⟩ := s'
          have eg : g2 = s.gens := hm.gens
          have ed : d' = s.drawn := hm.drawn
          have eo : os' = s.os := hm.os
          subst eg; subst ed; subst eo
          show wpAny _ _ _ _ _ _
          refine wpAny_pure ?_
          show wpAny _ _ (ret Value.none) _ _ _
          refine wpAny_pure ⟨rfl, h', tk', rfl, hS', fun b o e => ?_⟩
          have hb0 : b < s.heap.objs.size := Heap.lt_size e
          have hb1 : b ≠ s.heap.objs.size := Nat.ne_of_lt hb0
          have hb2 : b ≠ (s.heap.push { cls := .type "set", dict := none, data := .set #[] 0 (.fresh 0 0 (!w.params.followText "set-order")) }).objs.size := by
            rw [Heap.size_push]; exact Nat.ne_of_lt (Nat.lt_succ_of_lt hb0)
          exact hm.heap b o (by simp only [List.mem_cons, List.mem_singleton, List.not_mem_nil, or_false, not_or]; exact ⟨hb1, hb2⟩) (Heap.get?_push_of_some _ (Heap.get?_push_of_some _ e))
      · cases r₂ with
        | error e => exact hr₂
        | ok fl₂ =>
          cases fl₂ with
          | ret r =>
            obtain ⟨rfl, h', tk, rfl, hS', hk'⟩ := hr₂
            repeat (any_goals (first | assumption | wp_step))
            exact h _ _ hS' hk'
          | _ => exact hr₂.elim
    | _ => exact hr.elim
end

/-- the set of ints or texts at a -/
def setO (P : Program) (w : World) (a : Addr) (ks : List Key) : HO := .ext fun h => SetG (mixKind P w) h a ks
theorem setO_ok {P : Program} {w : World} {H : Hp} {h : Heap} {a : Addr} {ks : List Key} (x : SetG (mixKind P w) h a ks) : ObjOk P w H h a (setO P w a ks) :=
  ⟨x, let ⟨⟨o, _, _, _, e, _⟩, _, _⟩ := x; ⟨o, e⟩, fun _ _ p k => p.at k⟩
theorem keys_isKey {P : Program} {w : World} : ∀ {ks : List Key} {us : List Value}, Vals (ks.map kV) us → Paired (IsKey (mixKind P w)) us ks
  | [], _, h => by cases h; exact .nil
  | k :: ks, _, h => by
    cases h with
    | cons r t => exact .cons ⟨kV_is r, key_scan r⟩ (keys_isKey t)
section
variable {X : Cx}
/-- set(xs) -/
def rSetL (P : Program) (w : World) (K : PySem.W.Frag) : List V → Hp → VK → Prop := fun xs H Q => ∃ (l : Addr) (ks : List Key), xs = [.ref l] ∧ SqL K H l (ks.map kV) ∧ ks.length + 1 < 4096 ∧ ∀ p, H p = none → Q (.ref p) (upd H p (setO P w p (addKs [] ks)))
theorem call_setL (hc : X.calm = true) : CallR X (.type "set") (rSetL X.prog X.w X.K) := by
  intro pins s σ H xs us Q I r h
  obtain ⟨l, ks, rfl, hs, hb, q⟩ := h
  obtain ⟨u, rfl, ru⟩ := vals1 r
  obtain rfl : u = Value.ref l := ru
  obtain ⟨its, rv, hl, hz⟩ := I.list hs
  refine call_set_listG (knd := mixKind X.prog X.w) ks (I.ok.hd hc) hl.isList (keys_isKey (by simpa using rv)) hb fun h' tk hS hk => ?_
  exact ⟨.ref s.heap.objs.size, _, I.laid (t' := tk) hk (Nat.le_refl _) (setO_ok hS), rfl, q _ (I.hok.fresh (Nat.le_refl _))⟩

theorem each_ofk {β : Type} {kf : β → Key} {P : Program} {w : World} : ∀ {bs : List β} {es : List (Int × Value)}, Paired (KEn (mixKind P w)) es (bs.map kf) → PySem.W.EachIs (fun u b => keyIs (kf b) u = true) (es.map (·.2)) bs
  | [], _, h => by cases h; exact .nil
  | b :: bs, _, h => by
    cases h with
    | cons r t => exact .cons r.1 (each_ofk t)
theorem each_perm {α β : Type} {R : α → β → Prop} {l l' : List α} {m : List β} (p : l.Perm l') (h : PySem.W.EachIs R l m) : ∃ m', PySem.W.EachIs R l' m' ∧ m.Perm m' := by
  have h1 : Paired R l m := by
    clear p
    induction h with
    | nil => exact .nil
    | cons r _ ih => exact .cons r ih
  obtain ⟨m', a, b⟩ := paired_perm p h1
  exact ⟨m', each_of_paired a, b⟩
theorem perm_map_inv {α β : Type} {f : α → β} {l : List β} {m : List α} (h : l.Perm (m.map f)) : ∃ m' : List α, l = m'.map f ∧ m'.Perm m := by
  obtain ⟨m', p, q⟩ := paired_perm (R := fun x y => x = f y) h.symm (m := m) (by
    clear h
    induction m with
    | nil => exact .nil
    | cons a m ih => exact .cons rfl ih)
  refine ⟨m', ?_, q.symm⟩
  clear q h
  induction p with
  | nil => rfl
  | cons r _ ih => rw [r, ih]; rfl

theorem key_rel {k : Key} {u : Value} (h : keyIs k u = true) : RelV (kV k) u := by
  rcases keyIs_shape h with ⟨i, t, rfl, rfl⟩ | ⟨z, t, rfl, rfl⟩
  · exact ⟨t, rfl⟩
  · exact ⟨t, rfl⟩
/-- sorted(s) of a set -/
def rSortedG {β : Type} (enc : β → PyData) (kf : β → Key) (P : Program) (w : World) : List V → Hp → VK → Prop := fun xs H Q => ∃ (a : Addr) (bs : List β), xs = [.ref a] ∧ H a = some (setO P w a (bs.map kf)) ∧
  ∀ (ys : List β) (p : Addr), ys.Perm bs → ys.Pairwise (fun a b => PySem.W.dataLe false enc a b = true) → H p = none → Q (.ref p) (upd H p (.lst (ys.map fun b => kV (kf b))))
theorem call_sortedG {β : Type} {enc : β → PyData} {kf : β → Key} (hc : X.calm = true) (hrd : ∀ (h : Heap) (b : β) (u : Value), keyIs (kf b) u = true → ∃ as, Reads h u (enc b) as) (hal : ∀ b b', PySem.W.alike (enc b) (enc b') = true)
    (hso : ∀ b, enc b ≠ .none ∧ ∀ xs, enc b ≠ .tuple xs) (hdp : ∀ b, (enc b).depth = 0) (hr : Room k X.A) : CallR X (.builtin "sorted") (rSortedG enc kf X.prog X.w) := by
  intro pins s σ H xs us Q I r q
  obtain ⟨a, bs, rfl, ha, q⟩ := q
  obtain ⟨u, rfl, rx⟩ := vals1 r
  cases rx
  obtain ⟨hS, _⟩ := I.hok a _ ha
  obtain ⟨⟨o, es, ep, t, ho, hex, hd, ⟨ks', pk, pm⟩, hf, hri, hl⟩, nd, few⟩ := id hS
  obtain ⟨bs', rfl, pb⟩ := perm_map_inv pm
  have hz : es.size = bs.length := by rw [← Array.length_toList, Paired.length pk, List.length_map, pb.length_eq]
  rw [List.length_map] at few
  have few' : bs.length < 4096 := few
  have hsz : es.size < scanBound := by rw [hz]; exact few
  have h16 : bs.length ≤ sizeLine := by rw [sizeLine_eq]; omega
  refine Calls.call_function_entry PyProof.Rows.kind_sorted PyProof.Rows.plain_sorted PyProof.Rows.entry_sorted (PyProof.Rows.args_sorted1 _) ?_
  unfold Builtin.«sorted»
  refine wpAny_bind (m := checkCount "sorted" 1 1 _) (wpAny_pure ?_)
  refine wpAny_bind (collect_set (A := X.A.in1) (a := a) (es := es) (ep := ep) (t := t) (I.ok.hd hc) ⟨o, ho, hex.1, hd⟩ hf hsz hri hl fun s' out hk hsz' hg' hos' hp => ?_)
  obtain ⟨cs, ec, pc⟩ := each_perm hp.symm (each_ofk pk)
  have hcl : cs.length = bs.length := pc.symm.length_eq.trans pb.length_eq
  have hol : out.length = bs.length := by rw [ec.length, hcl]
  have I1 : Inv X pins σ H s' := I.call' (ch := []) hos' (Un.kept hk) (I.hok.kept hk) (by rw [hg']; exact I.bare) fun b z => by cases z
  refine wpAny_bind (wpAny_newList ?_ (by rw [hol]; exact h16))
  have hoL : (s'.heap.push (seqObj "list" out.toArray 0)).get? s'.heap.objs.size = some (seqObj "list" out.toArray 0) := Heap.get?_push_size _ rfl
  show wpAny _ _ _ _ _ { s' with heap := s'.heap.push (seqObj "list" out.toArray 0) }
  have er : ∀ h : Heap, PySem.W.EachIs (fun v b => ∃ as, Reads h v (enc b) as) out cs := fun h => ec.mono fun u b q => hrd h b u q
  have ha : PySem.W.AllAlike (cs.map enc) := PySem.W.AllAlike.of hal
  refine wpAny_bind (wpAny_holding (wpAny_call_entry PyProof.Rows.slot_list_sort ⟨_, hoL, rfl⟩ PyProof.Rows.entry_list_sort
    (PySem.W.list_sort_vals (s := { s' with heap := s'.heap.push (seqObj "list" out.toArray 0) }) hoL (PySem.W.SortsAt.data (s := { s' with heap := PySem.W.sortingHeap (s'.heap.push (seqObj "list" out.toArray 0)) s'.heap.objs.size out }) (PySem.W.each_map (R := fun v d => ∃ as, Reads (PySem.W.sortingHeap (s'.heap.push (seqObj "list" out.toArray 0)) s'.heap.objs.size out) v d as) enc (er _)) ha (PySem.W.Sortable.others hso) (PySem.W.bound_map fun b _ => ?_)) (by rw [hol]; exact h16) ⟨_, rfl, ?_⟩)
    (PyProof.Rows.args_list_sort _)))
  · rw [hdp]
    have := hr.units
    show X.A.units + 1 + 1 + 0 < cLine
    omega
  have hy := PySem.W.sortVals_data (h' := PySem.W.sortingHeap (s'.heap.push (seqObj "list" out.toArray 0)) s'.heap.objs.size out) (R := fun u b => keyIs (kf b) u = true) (enc := enc) false ec (er _) ha
  generalize PySem.W.sortVals (PySem.W.dataKind (PySem.W.sortingHeap (s'.heap.push (seqObj "list" out.toArray 0)) s'.heap.objs.size out) (cs.map enc)) false out out = zs at hy ⊢
  obtain ⟨e', he'⟩ := PyProof.Rows.sortedHeap_at (vs := out) (out := zs.toArray) hoL
  have hzl : zs.length = bs.length := by rw [hy.length, (List.mergeSort_perm _ _).length_eq, hcl]
  have hpw : (cs.mergeSort (PySem.W.dataLe false enc)).Pairwise (fun a b => PySem.W.dataLe false enc a b = true) := PySem.W.sort_pairwise (PySem.W.sortLe_total _ _ _) cs
  have hpm : (cs.mergeSort (PySem.W.dataLe false enc)).Perm bs := (List.mergeSort_perm _ _).trans (pc.symm.trans pb)
  generalize cs.mergeSort (PySem.W.dataLe false enc) = ys at hy hpw hpm
  refine wpAny_pure ⟨_, rfl, .ref s'.heap.objs.size, upd H s'.heap.objs.size (.lst (ys.map fun b => kV (kf b))), I1.laid (t' := s'.toks) (fun b u e => ?_) (Nat.le_refl _)
    (show ObjOk X.prog X.w _ _ _ (.lst (ys.map fun b => kV (kf b))) from ⟨?_, zs, e', ?_, he'⟩), rfl, q _ _ hpm hpw (I1.hok.fresh (Nat.le_refl _))⟩
  · have hb : b < s'.heap.objs.size := Heap.lt_size e
    rw [PyProof.Rows.sortedHeap_old (Nat.ne_of_lt hb) (by rw [size_push']; exact Nat.lt_succ_of_lt hb)]
    exact Heap.get?_push_of_some _ e
  · rw [List.length_map, hpm.length_eq]
    exact h16
  · clear he' hzl q hpm hpw
    induction hy with
    | nil => exact .nil
    | cons r _ ih => exact .cons (key_rel r) ih
end
end CB
end
section
set_option maxHeartbeats 8000000
/-! sorted of data -/
namespace CB
open PySem PySem.Spec PyProof.Rows L2
section
variable {X : Cx} {k : Nat}
theorem call_sortedI (hc : X.calm = true) (hr : Room k X.A) : CallR X (.builtin "sorted") (rSortedG (fun b : Int => PyData.int b) Sum.inl X.prog X.w) :=
  call_sortedG hc (fun h b u e => by
    rcases keyIs_shape e with ⟨i, t, e1, rfl⟩ | ⟨z, t, e1, rfl⟩
    · cases e1
      exact ⟨_, .int _ _⟩
    · cases e1) (fun b b' => by simp [PySem.W.alike]) (fun b => ⟨by simp, by simp⟩) (fun b => by simp [PyData.depth]) hr
theorem call_sortedS (hc : X.calm = true) (hr : Room k X.A) : CallR X (.builtin "sorted") (rSortedG (fun b : Str => PyData.str b) Sum.inr X.prog X.w) :=
  call_sortedG hc (fun h b u e => by
    rcases keyIs_shape e with ⟨i, t, e1, rfl⟩ | ⟨z, t, e1, rfl⟩
    · cases e1
    · cases e1
      exact ⟨_, .str _ _⟩) (fun b b' => by simp [PySem.W.alike]) (fun b => ⟨by simp, by simp⟩) (fun b => by simp [PyData.depth]) hr

/-- sorted(xs), the items data: the items stand for the sorted ones -/
def rSortedL (K : PySem.W.Frag) (n : Nat) : List V → Hp → VK → Prop := fun vs H Q => ∃ (β : Type) (bs : List β) (enc : β → PyData) (R : V → β → Prop) (l : Addr) (xs : List V), vs = [.ref l] ∧ SqL K H l xs ∧ Paired R xs bs ∧
  (∀ x b, b ∈ bs → R x b → Dp K H x (enc b)) ∧ (∀ b b', PySem.W.alike (enc b) (enc b') = true) ∧ PySem.W.Sortable (bs.map enc) ∧ (∀ b ∈ bs, (enc b).depth ≤ n) ∧
  ∀ ys p, H p = none → Paired R ys (bs.mergeSort (PySem.W.dataLe false enc)) → Q (.ref p) (upd H p (.lst ys))
theorem paired_of_each {α β : Type} {R : α → β → Prop} {l : List α} {m : List β} (h : PySem.W.EachIs R l m) : Paired R l m := by
  induction h with
  | nil => exact .nil
  | cons r _ ih => exact .cons r ih
theorem call_sortedL (hr : Room k X.A) : CallR X (.builtin "sorted") (rSortedL X.K 8) := by
  intro pins s σ H vs us Q I r h
  obtain ⟨β, bs, enc, R, l, xs, rfl, hs, hR, hd, hal, hso, hdp, q⟩ := h
  obtain ⟨u, rfl, ru⟩ := vals1 r
  obtain rfl : u = Value.ref l := ru
  obtain ⟨its, rv, hl, hz⟩ := I.list hs
  have hn : its.length = bs.length := by rw [← rv.length]; exact Paired.length hR
  have hE := each_rel rv hR
  have er : PySem.W.EachIs (fun v b => ∃ as, Reads s.heap v (enc b) as) its bs := (PySem.W.each_mem hE).mono fun u b ⟨⟨x, rx, rb⟩, hb⟩ => Dp.reads I (enc b) x u (hd x b hb rb) rx
  refine PySem.W.sorted_data (vs := its) hl.isList hE er (PySem.W.AllAlike.of hal) hso (by rw [← hn, ← rv.length]; exact hz) (fun b hb => ?_) fun out ho eo => ?_
  · have h1 := hdp b hb
    have h2 := hr.units
    omega
  obtain ⟨ys, ry, hy⟩ := rel_each eo
  obtain ⟨c, hc⟩ := PyProof.Rows.sortedAll_at s.heap its out.toArray
  have hyl : ys.length ≤ sizeLine := by rw [Paired.length hy, (List.mergeSort_perm _ _).length_eq, ← hn, ← rv.length]; exact hz
  refine ⟨.ref (s.heap.objs.size + 1), upd H (s.heap.objs.size + 1) (.lst ys), I.laid (t' := s.toks) (fun b u e => PyProof.Rows.sortedAll_old e) (Nat.le_succ _) (show ObjOk X.prog X.w _ _ _ (.lst ys) from ⟨hyl, out, c, ry, hc⟩), rfl, q _ _ (I.hok.fresh (Nat.le_succ _)) hy⟩
end
end CB
namespace CB
open PySem PySem.Spec PyProof.Rows L2
section
variable {X : Cx} {P : Program} {w : World} {K : PySem.W.Frag} {k : Nat}
/-- the same rules, the program, the world and the written part by their own names -/
theorem call_setP (P : Program) (w : World) (K : PySem.W.Frag) (h1 : X.prog = P) (h2 : X.w = w) (h3 : X.K = K) (hc : X.calm = true) : CallR X (.type "set") (rSetL P w K) := by
  subst h1 h2 h3
  exact call_setL hc
theorem call_sortedIP (P : Program) (w : World) (h1 : X.prog = P) (h2 : X.w = w) (hc : X.calm = true) (hr : Room k X.A) : CallR X (.builtin "sorted") (rSortedG (fun b : Int => PyData.int b) Sum.inl P w) := by
  subst h1 h2
  exact call_sortedI hc hr
theorem call_sortedSP (P : Program) (w : World) (h1 : X.prog = P) (h2 : X.w = w) (hc : X.calm = true) (hr : Room k X.A) : CallR X (.builtin "sorted") (rSortedG (fun b : Str => PyData.str b) Sum.inr P w) := by
  subst h1 h2
  exact call_sortedS hc hr
end
end CB
end
section
set_option maxHeartbeats 4000000
/-! the text by places; how a def's promise is packed -/
namespace CB
open PySem PySem.Spec PyProof.Rows L2 CBM
def top (i : Nat) : Stmt := PySem.Challenge.pw_cellblocks_k69_whole_sheets_of_many_valu.main.body.getD i (.Pass ⟨0, 0, 0, 0⟩)
abbrev FnD (K : PySem.W.Frag) (x qual : Str) (st : Stmt) (dvs : List V) (f : Addr) (fd : FuncData) : Prop := FunD K x qual (defArgs st) (defBody st) (defScope st) dvs [] f fd
section
variable {P : Program} {w : World} {K : PySem.W.Frag} {mg : Str → Option Value} {base : Heap}
theorem calD {x : Str} {st : Stmt} {f : Addr} {fd : FuncData} {N ps : List Str} {ds : List Value} {dvs dvs' : List V} {k : Nat} {sp : Sp} (F : FnD K x x st dvs f fd) (g : mg x = some (.ref f)) (b : Binds K fd ps ds) (d : Vals dvs' ds) (S : FnScope N ps (defScope st)) (len : ∀ vs H Q E, sp vs H Q E → vs.length = ps.length)
    (hbody : ∀ (cdv : Value) (A : Around) (outer : List Env) (s : Shared) (H : Hp) (vs : List V) (Q : VK) (E : XK), Room k (A.deeper (envOfC x (defScope st) s.heap.objs.size f cdv)) → sp vs H Q E →
      ∃ t, PSs (cxOf C8.CX0 P w K mg base N x (defScope st) f cdv A outer s H E).nox (defBody st) t ∧ t { nx := fun _ H' => Q .non H', rt := Q } (start N vs) H) : C8.Cal P w K mg base (k + 1) x sp dvs' :=
  ⟨f, fd, ps, ds, F.ok S len fun cdv A outer s H vs Q E hr h => let ⟨t, a, q⟩ := hbody cdv A outer s H vs Q E hr h; ⟨t, a.nox, q⟩, g, F.kp, b, d⟩
theorem metD {m qual : Str} {C : Addr} {st : Stmt} {f : Addr} {fd : FuncData} {N ps : List Str} {ds : List Value} {dvs dvs' : List V} {k : Nat} {sp : Sp} (c : Cls K C) (me : Meth K C m f) (F : FnD K m qual st dvs f fd) (b : Binds K fd ps ds) (d : Vals dvs' ds) (S : FnScope N ps (defScope st)) (len : ∀ vs H Q E, sp vs H Q E → vs.length = ps.length)
    (hbody : ∀ (cdv : Value) (A : Around) (outer : List Env) (s : Shared) (H : Hp) (vs : List V) (Q : VK) (E : XK), Room k (A.deeper (envOfC qual (defScope st) s.heap.objs.size f cdv)) → sp vs H Q E →
      ∃ t, PSs (cxOf C8.CX0 P w K mg base N qual (defScope st) f cdv A outer s H E).nox (defBody st) t ∧ t { nx := fun _ H' => Q .non H', rt := Q } (start N vs) H) : C8.Met P w K mg base (k + 1) C m sp dvs' :=
  ⟨f, fd, ps, ds, c, me, F.ok S len fun cdv A outer s H vs Q E hr h => let ⟨t, a, q⟩ := hbody cdv A outer s H vs Q E hr h; ⟨t, a.nox, q⟩, b, d⟩
theorem makD {x qual : Str} {C : Addr} {st : Stmt} {f : Addr} {fd : FuncData} {N ps : List Str} {ds : List Value} {dvs dvs' : List V} {k : Nat} {sp : Sp} (M : Mk K C f) (g : mg x = some (.ref C)) (F : FnD K "__init__" qual st dvs f fd) (b : Binds K fd ps ds) (d : Vals dvs' ds) (S : FnScope N ps (defScope st)) (len : ∀ vs H Q E, sp vs H Q E → vs.length = ps.length)
    (hbody : ∀ (cdv : Value) (A : Around) (outer : List Env) (s : Shared) (H : Hp) (vs : List V) (Q : VK) (E : XK), Room k (A.deeper (envOfC qual (defScope st) s.heap.objs.size f cdv)) → sp vs H Q E →
      ∃ t, PSs (cxOf C8.CX0 P w K mg base N qual (defScope st) f cdv A outer s H E).nox (defBody st) t ∧ t { nx := fun _ H' => Q .non H', rt := Q } (start N vs) H) : C8.Mak P w K mg base (k + 1) x C sp dvs' :=
  ⟨f, fd, ps, ds, M, F.ok S len fun cdv A outer s H vs Q E hr h => let ⟨t, a, q⟩ := hbody cdv A outer s H vs Q E hr h; ⟨t, a.nox, q⟩, g, b, d⟩
end
section
variable {X : Cx} {k j : Nat} {C : Addr} {x : Str} {sp : Sp} {dvs : List V} {p pos : Pos}
theorem pe_mk0 (c : C8.Mak X.prog X.w X.K X.mg X.base k x C sp dvs) (hr : Room j X.A) (hk : k + 1 ≤ j) (hg : Gl X x) (hdb : (x == ("__debug__" : Str)) = false := by decide) :
    PE X (.Call (.Name x p) [] [] pos) (tMake C sp dvs C8.E0 tNil) := by
  obtain ⟨f, fd, ps, ds, M, F, hm, b, d⟩ := c.ex
  exact pe_make0 M F (hr.mono hk) hg hm b d C8.pass0 hdb
end
/-! ### heaps -/
theorem same_new {H : Hp} {p : Addr} {o : HO} (h : H p = none) : Same H (upd H p o) := fun b u e => by
  rw [upd_ne (ne_of_none e h)]
  exact e
theorem sm_new {H H' : Hp} {p : Addr} {o : HO} (e : Same H H') (h : H' p = none) : Same H (upd H' p o) := e.trans (same_new h)
/-- an object that H does not know may change -/
theorem sm_mut {H H' : Hp} {p : Addr} {o : HO} (e : Same H H') (h : H p = none) : Same H (upd H' p o) := fun a u ha => by
  rw [upd_ne (ne_of_none ha h)]
  exact e a u ha
theorem sm_tup {K : PySem.W.Frag} {H H' : Hp} {a : Addr} {xs : List V} (e : Same H H') (h : SqT K H a xs) : SqT K H' a xs := by
  rcases h with (h | ⟨o, h⟩) | h
  · exact .inl (.inl (e _ _ h))
  · exact .inl (.inr ⟨o, e _ _ h⟩)
  · exact .inr h
theorem sql {K : PySem.W.Frag} {H : Hp} {a : Addr} {xs : List V} (h : H a = some (.lst xs)) : SqL K H a xs := .inl (.inl h)
theorem sqt {K : PySem.W.Frag} {H : Hp} {a : Addr} {xs : List V} (h : H a = some (.tup xs)) : SqT K H a xs := .inl (.inl h)
theorem sz_le {n : Nat} (h : n ≤ 100000) : n ≤ sizeLine := Nat.le_trans h (by decide)
theorem sz_lt {n : Nat} (h : n < 100000) : n < sizeLine := Nat.lt_of_lt_of_le h (by decide)
/-! ### values -/
def oV : OI → V
  | none => .non
  | some i => .int i
theorem oV_inj {a b : OI} (h : oV a = oV b) : a = b := by
  cases a <;> cases b <;> first | rfl | (cases h; done) | (injection h with h; rw [h])
/-- a stretch, a run: a tuple of its ends -/
def SegAt (H : Hp) (v : V) (s : Seg) : Prop := ∃ a, v = .ref a ∧ H a = some (.tup [.int s.1, oV s.2])
theorem SegAt.same {H H' : Hp} {v : V} {s : Seg} (e : Same H H') (h : SegAt H v s) : SegAt H' v s := let ⟨a, h1, h2⟩ := h; ⟨a, h1, e _ _ h2⟩
/-- a list of things that stand for xs -/
def LstOf {α : Type} (R : Hp → V → α → Prop) (H : Hp) (a : Addr) (xs : List α) : Prop := ∃ vs, H a = some (.lst vs) ∧ Paired (R H) vs xs
theorem paired_imp {α β : Type} {F G : α → β → Prop} (f : ∀ a b, F a b → G a b) {l : List α} {m : List β} (h : Paired F l m) : Paired G l m := Paired.mapP h f
theorem LstOf.same {α : Type} {R : Hp → V → α → Prop} {H H' : Hp} {a : Addr} {xs : List α} (hR : ∀ v x, R H v x → R H' v x) (e : Same H H') (h : LstOf R H a xs) : LstOf R H' a xs := let ⟨vs, h1, h2⟩ := h; ⟨vs, e _ _ h1, paired_imp hR h2⟩
theorem LstOf.len {α : Type} {R : Hp → V → α → Prop} {H : Hp} {a : Addr} {xs : List α} (h : LstOf R H a xs) : ∃ vs, H a = some (.lst vs) ∧ vs.length = xs.length := let ⟨vs, h1, h2⟩ := h; ⟨vs, h1, Paired.length h2⟩
theorem paired_snoc' {α β : Type} {F : α → β → Prop} {l : List α} {m : List β} {a : α} {b : β} (h : Paired F l m) (r : F a b) : Paired F (l ++ [a]) (m ++ [b]) := by
  induction h with
  | nil => exact .cons r .nil
  | cons r' _ ih => exact .cons r' ih
theorem paired_app {α β : Type} {F : α → β → Prop} {l l' : List α} {m m' : List β} (h : Paired F l m) (h' : Paired F l' m') : Paired F (l ++ l') (m ++ m') := by
  induction h with
  | nil => exact h'
  | cons r' _ ih => exact .cons r' ih
theorem paired_getI {α β : Type} {F : α → β → Prop} {l : List α} {m : List β} (h : Paired F l m) {i : Nat} {x : α} (hx : l[i]? = some x) : ∃ y, m[i]? = some y ∧ F x y := LiI.paired_get h hx
/-! ### blocks -/
def bF (t l : Int) (b r : OI) : List (Str × V) := putF "right" (oV r) (putF "bottom" (oV b) (putF "left" (.int l) (putF "top" (.int t) [])))
theorem kk {a b : Str} (h : (a == b) = false) : ¬ a = b := by
  intro e
  rw [e] at h
  simp at h
theorem bF_right {t l : Int} {b r : OI} : (bF t l b r).lookup ("right" : Str) = some (oV r) := by
  unfold bF
  rw [lookup_putF, if_pos rfl]
theorem bF_bottom {t l : Int} {b r : OI} : (bF t l b r).lookup ("bottom" : Str) = some (oV b) := by
  unfold bF
  rw [lookup_putF, if_neg (by decide +kernel), lookup_putF, if_pos rfl]
theorem bF_left {t l : Int} {b r : OI} : (bF t l b r).lookup ("left" : Str) = some (.int l) := by
  unfold bF
  rw [lookup_putF, if_neg (by decide +kernel), lookup_putF, if_neg (by decide +kernel), lookup_putF, if_pos rfl]
theorem bF_top {t l : Int} {b r : OI} : (bF t l b r).lookup ("top" : Str) = some (.int t) := by
  unfold bF
  rw [lookup_putF, if_neg (by decide +kernel), lookup_putF, if_neg (by decide +kernel), lookup_putF, if_neg (by decide +kernel), lookup_putF, if_pos rfl]
theorem bF_none {t l : Int} {b r : OI} {m : Str} (h1 : ¬ m = "top") (h2 : ¬ m = "left") (h3 : ¬ m = "bottom") (h4 : ¬ m = "right") : (bF t l b r).lookup m = none := by
  unfold bF
  rw [lookup_putF, if_neg h4, lookup_putF, if_neg h3, lookup_putF, if_neg h2, lookup_putF, if_neg h1]
  rfl
/-- the block at v -/
def BlkAt (C : Addr) (H : Hp) (v : V) (b : Blk) : Prop := ∃ a dx, v = .ref a ∧ H a = some (.ins C dx (bF b.t b.l b.b b.r))
theorem BlkAt.same {C : Addr} {H H' : Hp} {v : V} {b : Blk} (e : Same H H') (h : BlkAt C H v b) : BlkAt C H' v b := let ⟨a, dx, h1, h2⟩ := h; ⟨a, dx, h1, e _ _ h2⟩
abbrev Blks (C : Addr) (H : Hp) (a : Addr) (bs : List Blk) : Prop := LstOf (BlkAt C) H a bs
theorem Blks.same' {C : Addr} {H H' : Hp} {a : Addr} {bs : List Blk} (e : Same H H') (h : Blks C H a bs) : Blks C H' a bs := LstOf.same (fun _ _ => BlkAt.same e) e h
abbrev Segs (H : Hp) (a : Addr) (ss : List Seg) : Prop := LstOf SegAt H a ss
theorem Segs.same' {H H' : Hp} {a : Addr} {ss : List Seg} (e : Same H H') (h : Segs H a ss) : Segs H' a ss := LstOf.same (fun _ _ => SegAt.same e) e h
end CB
end
section
set_option maxHeartbeats 4000000
/-! comprehensions and walks over lists whose items stand for things -/
namespace CB
open PySem PySem.Spec PyProof.Rows L2 CBM
theorem paired_take {α β : Type} {F : α → β → Prop} : ∀ {l : List α} {m : List β} (n : Nat), Paired F l m → Paired F (l.take n) (m.take n)
  | _, _, 0, _ => by rw [List.take_zero, List.take_zero]; exact .nil
  | _, _, _ + 1, .nil => .nil
  | _, _, n + 1, .cons r t => .cons r (paired_take n t)
theorem take_succ' {α : Type} {l : List α} {i : Nat} {x : α} (h : l[i]? = some x) : l.take (i + 1) = l.take i ++ [x] := by
  rw [List.take_add_one, h]
  rfl
/-- the heap without an object -/
def delH' (H : Hp) (D : Addr) : Hp := fun b => if b = D then none else H b
theorem del_ne {H : Hp} {D b : Addr} (h : b ≠ D) : delH' H D b = H b := by unfold delH'; rw [if_neg h]
theorem del_upd {H : Hp} {D : Addr} {o : HO} : Same (delH' H D) (upd H D o) := fun b u e => by
  by_cases hb : b = D
  · subst hb
    unfold delH' at e
    rw [if_pos rfl] at e
    cases e
  · rw [del_ne hb] at e
    rw [upd_ne hb]
    exact e
theorem del_sub {H : Hp} {D : Addr} : Same (delH' H D) H := fun b u e => by
  by_cases hb : b = D
  · subst hb
    unfold delH' at e
    rw [if_pos rfl] at e
    cases e
  · rw [del_ne hb] at e
    exact e
theorem seg_del {H : Hp} {D : Addr} {acc : List V} {v : V} {s : Seg} (hD : H D = some (.lst acc)) (h : SegAt H v s) : SegAt (delH' H D) v s := let ⟨a, h1, h2⟩ := h; ⟨a, h1, by rw [del_ne (ne_of h2 hD fun z => nomatch z)]; exact h2⟩
theorem blk_del {C : Addr} {H : Hp} {D : Addr} {acc : List V} {v : V} {b : Blk} (hD : H D = some (.lst acc)) (h : BlkAt C H v b) : BlkAt C (delH' H D) v b := let ⟨a, dx, h1, h2⟩ := h; ⟨a, dx, h1, by rw [del_ne (ne_of h2 hD fun z => nomatch z)]; exact h2⟩
section
variable {α β : Type} {K : PySem.W.Frag} {a : Addr} {xs : List V} {ms : List α} {R : Hp → V → α → Prop} {R' : Hp → V → β → Prop} {keep : α → Bool} {f : α → β} {g : TG} {tt : TT} {te : TE} {vs : List Nat} {σ : L2.St} {H1 : Hp} {D : Addr} {Qd : Hp → Prop}
/-- what a turn of a comprehension must show -/
def LcTurn (R : Hp → V → α → Prop) (R' : Hp → V → β → Prop) (keep : α → Bool) (f : α → β) (ms : List α) (g : TG) (tt : TT) (te : TE) (vs : List Nat) (σ : L2.St) (H1 : Hp) : Prop :=
  ∀ x m H, m ∈ ms → R H x m → Same H1 H → ∀ (QT : VK) (QF : Hp → Prop), (keep m = true → ∀ y H', Same H H' → R' H' y (f m) → QT y H') → (keep m = false → ∀ H', Same H H' → QF H') →
    g x (wipe σ vs) H fun σ2 H2 => wipe σ2 vs = wipe σ vs ∧ tt σ2 H2 fun b H3 => if b = true then te σ2 H3 QT else QF H3
theorem lc_genW {J : It} {G : Hp → Prop} {Y : Nat → Hp → V → Hp → Prop} (w : Walk J ms.length G Y) (hD : H1 D = none) (hG : ∀ H, Same H1 H → G H) (hY : ∀ i x H H' m, ms[i]? = some m → Same H1 H → Y i H x H' → Same H H' ∧ R H' x m) (hz : ms.length ≤ 90000)
    (mR' : ∀ {H H' v x}, Same H H' → R' H v x → R' H' v x) (mD : ∀ {H v x acc}, H D = some (.lst acc) → R' H v x → R' (delH' H D) v x)
    (turn : LcTurn R R' keep f ms g tt te vs σ H1)
    (hd : ∀ H, Same H1 H → LstOf R' H D ((ms.filter keep).map f) → Qd H) :
    ∃ W : Nat → Nat → Hp → Prop, (∃ m, W 0 m (upd H1 D (.lst []))) ∧ ∀ i m H, W i m H →
      (J.stop i H ∧ Qd H) ∨ (J.go i H ∧ ∃ Nx : Hp → Prop, (∀ H', Nx H' → ∃ m', m' < m ∧ W (i + 1) m' H') ∧ ∀ x H', J.yld i H x H' → g x (wipe σ vs) H' fun σ2 H2 => wipe σ2 vs = wipe σ vs ∧ tt σ2 H2 fun b H3 =>
        if b = true then te σ2 H3 fun y H4 => ∃ acc, H4 D = some (.lst acc) ∧ acc.length < sizeLine ∧ Nx (upd H4 D (.lst (acc ++ [y]))) else Nx H3) := by
  refine lc_it w (fun i H => Same H1 H ∧ LstOf R' H D (((ms.take i).filter keep).map f)) ⟨same_new hD, [], upd_same, by rw [List.take_zero]; exact .nil⟩ (fun i H _ h => hG H h.1) ?_ ?_
  · rintro i x H H' hi ⟨s, ys, hy, hp⟩ y
    have hm : ms[i]? = some ms[i] := List.getElem?_eq_getElem hi
    generalize ms[i] = m at hm
    obtain ⟨sH, r⟩ := hY i x H H' m hm s y
    have hmm : m ∈ ms := List.mem_of_getElem? hm
    have hlen : ys.length < sizeLine := by
      have h1 := Paired.length hp
      rw [List.length_map] at h1
      have h2 := List.length_filter_le keep (ms.take i)
      have h3 : (ms.take i).length ≤ ms.length := List.length_take_le' i ms
      exact sz_lt (by omega)
    refine turn x m H' hmm r (s.trans sH) _ _ (fun hk y H'' s'' hy' => ?_) (fun hk H'' s'' => ?_)
    · have s' := sH.trans s''
      have nD : ∀ b o, H1 b = some o → b ≠ D := fun b o e => ne_of_none e hD
      refine ⟨ys, s' _ _ hy, hlen, fun b o e => by rw [upd_ne (nD b o e)]; exact s' _ _ (s _ _ e), ys ++ [y], upd_same, ?_⟩
      have e1 : ((ms.take (i + 1)).filter keep).map f = ((ms.take i).filter keep).map f ++ [f m] := by
        rw [take_succ' hm, List.filter_append, List.map_append]
        simp [hk]
      rw [e1]
      exact paired_snoc' (paired_imp (fun _ _ q => mR' del_upd (mD (s' _ _ hy) (mR' s' q))) hp) (mR' del_upd (mD (s' _ _ hy) hy'))
    · have s' := sH.trans s''
      have e1 : ((ms.take (i + 1)).filter keep).map f = ((ms.take i).filter keep).map f := by
        rw [take_succ' hm, List.filter_append, List.map_append]
        simp [hk]
      rw [e1]
      exact ⟨s.trans s', ys, s' _ _ hy, paired_imp (fun _ _ => mR' s') hp⟩
  · rintro H ⟨s, h⟩
    refine hd H s ?_
    rw [List.take_of_length_le (Nat.le_refl _)] at h
    exact h
theorem lc_gen (hD : H1 D = none) (hL : SqL K H1 a xs) (hR : Paired (R H1) xs ms) (hz : ms.length ≤ 90000) (mR : ∀ {H H' v x}, Same H H' → R H v x → R H' v x) (mR' : ∀ {H H' v x}, Same H H' → R' H v x → R' H' v x) (mD : ∀ {H v x acc}, H D = some (.lst acc) → R' H v x → R' (delH' H D) v x)
    (turn : LcTurn R R' keep f ms g tt te vs σ H1)
    (hd : ∀ H, Same H1 H → LstOf R' H D ((ms.filter keep).map f) → Qd H) :
    ∃ W : Nat → Nat → Hp → Prop, (∃ m, W 0 m (upd H1 D (.lst []))) ∧ ∀ i m H, W i m H →
      ((Itl K a).stop i H ∧ Qd H) ∨ ((Itl K a).go i H ∧ ∃ Nx : Hp → Prop, (∀ H', Nx H' → ∃ m', m' < m ∧ W (i + 1) m' H') ∧ ∀ x H', (Itl K a).yld i H x H' → g x (wipe σ vs) H' fun σ2 H2 => wipe σ2 vs = wipe σ vs ∧ tt σ2 H2 fun b H3 =>
        if b = true then te σ2 H3 fun y H4 => ∃ acc, H4 D = some (.lst acc) ∧ acc.length < sizeLine ∧ Nx (upd H4 D (.lst (acc ++ [y]))) else Nx H3) := by
  have hl : xs.length = ms.length := Paired.length hR
  refine lc_genW (R := R) (R' := R') (keep := keep) (f := f) (hl ▸ walk_list) hD (fun H s => s.seq hL) (fun i x H H' m hm s y => ?_) hz mR' mD turn hd
  obtain ⟨rfl, hx⟩ := y
  obtain ⟨m', hm', r⟩ := paired_getI hR hx
  rw [hm] at hm'
  cases hm'
  exact ⟨Same.refl _, mR s r⟩
end
section
variable {α : Type} {K : PySem.W.Frag} {a : Addr} {xs : List V} {ms : List α} {R : Hp → V → α → Prop} {g : TG} {tb : TS} {D : Ends} {σ : L2.St} {H H0 : Hp}
/-- for over a list whose items stand for ms -/
theorem for_listG (hL : SqL K H0 a xs) (hR : Paired (R H0) xs ms) (mR : ∀ {H H' v x}, Same H H' → R H v x → R H' v x) (Pv : Nat → L2.St → Hp → Prop) (h0 : Pv 0 σ H) (hS : ∀ i σ H, Pv i σ H → Same H0 H)
    (hs : ∀ i x m σ H, i < ms.length → ms[i]? = some m → R H x m → Pv i σ H → g x σ H fun σ2 H2 => tb { D with nx := Pv (i + 1), ct := Pv (i + 1), bk := D.nx } σ2 H2) (hd : ∀ σ H, Pv ms.length σ H → D.nx σ H) :
    ∃ W : Nat → Nat → L2.St → Hp → Prop, (∃ m, W 0 m σ H) ∧ ∀ i m σ H, W i m σ H →
      ((Itl K a).stop i H ∧ D.nx σ H) ∨ ((Itl K a).go i H ∧ ∃ N : L2.St → Hp → Prop, (∀ σ' H', N σ' H' → ∃ m', m' < m ∧ W (i + 1) m' σ' H') ∧ ∀ x H', (Itl K a).yld i H x H' → g x σ H' fun σ2 H2 => tb { D with nx := N, ct := N, bk := D.nx } σ2 H2) := by
  have hl : xs.length = ms.length := Paired.length hR
  refine for_list (K := K) (a := a) (xs := xs) Pv h0 (fun i σ H _ h => (hS i σ H h).seq hL) (fun i x σ H hx p => ?_) (fun σ H p => hd σ H (hl ▸ p))
  obtain ⟨m, hm, r⟩ := paired_getI hR hx
  exact hs i x m σ H (List.getElem?_eq_some_iff.mp hm).1 hm (mR (hS i σ H p) r) p
/-- for over enumerate of such a list -/
theorem for_enumG (hL : SqL K H0 a xs) (hR : Paired (R H0) xs ms) (mR : ∀ {H H' v x}, Same H H' → R H v x → R H' v x) (Pv : Nat → L2.St → Hp → Prop) (h0 : Pv 0 σ H) (hS : ∀ i σ H, Pv i σ H → Same H0 H)
    (hs : ∀ i x m T σ H, i < ms.length → ms[i]? = some m → R H x m → Pv i σ H → H T = none → g (.ref T) σ (upd H T (.tup [.int (i : Nat), x])) fun σ2 H2 => tb { D with nx := Pv (i + 1), ct := Pv (i + 1), bk := D.nx } σ2 H2) (hd : ∀ σ H, Pv ms.length σ H → D.nx σ H) :
    ∃ W : Nat → Nat → L2.St → Hp → Prop, (∃ m, W 0 m σ H) ∧ ∀ i m σ H, W i m σ H →
      ((Ite K a).stop i H ∧ D.nx σ H) ∨ ((Ite K a).go i H ∧ ∃ N : L2.St → Hp → Prop, (∀ σ' H', N σ' H' → ∃ m', m' < m ∧ W (i + 1) m' σ' H') ∧ ∀ x H', (Ite K a).yld i H x H' → g x σ H' fun σ2 H2 => tb { D with nx := N, ct := N, bk := D.nx } σ2 H2) := by
  have hl : xs.length = ms.length := Paired.length hR
  refine for_it walk_enum Pv h0 (fun i σ H _ h => (hS i σ H h).seq hL) (fun i x σ H H' hi p y => ?_) (fun σ H p => hd σ H (hl ▸ p))
  obtain ⟨T, x1, x2, rfl, hT, rfl, e1, e2⟩ := y
  obtain rfl := Option.some.inj e1
  obtain ⟨m, hm, r⟩ := paired_getI hR e2
  exact hs i x2 m T σ H (hl ▸ hi) hm (mR (hS i σ H p) r) p hT
end
/-- ints, as items -/
def IntV (_ : Hp) (v : V) (n : Int) : Prop := v = .int n
theorem intV_all {H : Hp} : ∀ ns : List Int, Paired (IntV H) (ns.map V.int) ns
  | [] => .nil
  | _ :: ns => .cons rfl (intV_all ns)
theorem lst_snoc {α : Type} {R : Hp → V → α → Prop} {H : Hp} {D : Addr} {ms : List α} {y : V} {m : α} (mR : ∀ {H H' v x}, Same H H' → R H v x → R H' v x) (mD : ∀ {H v x acc}, H D = some (.lst acc) → R H v x → R (delH' H D) v x) (h : LstOf R H D ms) (r : R H y m) :
    ∃ acc, H D = some (.lst acc) ∧ acc.length = ms.length ∧ LstOf R (upd H D (.lst (acc ++ [y]))) D (ms ++ [m]) := by
  obtain ⟨acc, h1, h2⟩ := h
  exact ⟨acc, h1, Paired.length h2, _, upd_same, paired_snoc' (paired_imp (fun _ _ z => mR del_upd (mD h1 z)) h2) (mR del_upd (mD h1 r))⟩
theorem lst_mono {α : Type} {R : Hp → V → α → Prop} {H H' : Hp} {D : Addr} {ms : List α} (mR : ∀ {H H' v x}, Same H H' → R H v x → R H' v x) (s : Same H H') (h : LstOf R H D ms) : LstOf R H' D ms := LstOf.same (fun _ _ => mR s) s h
theorem lst_ints {H : Hp} {D : Addr} {ns : List Int} (h : LstOf IntV H D ns) : H D = some (.lst (ns.map V.int)) := by
  obtain ⟨vs, h1, h2⟩ := h
  have e : vs = ns.map V.int := by
    clear h1
    induction h2 with
    | nil => rfl
    | cons r _ ih => rw [r, ih]; rfl
  rw [h1, e]
theorem filtT {α : Type} (l : List α) : l.filter (fun _ => true) = l := List.filter_eq_self.mpr fun _ _ => rfl
/-! rules for blocks of comprehensions: the written part by its own name -/
section
variable {X : Cx} {e o : Expr} {te : TE} {f : Str} {pos : Pos}
theorem ixT (K : PySem.W.Frag) (h : X.K = K := by rfl) : IxR X (rIxT K) := by
  subst h
  exact ix_tup
theorem ixL (K : PySem.W.Frag) (h : X.K = K := by rfl) : IxR X (rIxL K) := by
  subst h
  exact ix_list
theorem pe_fldK (K : PySem.W.Frag) (he : PE X o te) (h : X.K = K := by rfl) (hb : attributeBase o f X.env (eval o X.env) = eval o X.env := by rfl) : PE X (.Attribute o f pos) (tFld K te f) := by
  subst h
  exact pe_fld he hb
end
theorem del_self {H : Hp} {D : Addr} : delH' H D D = none := if_pos rfl
theorem del_same {H H' : Hp} {D : Addr} (s : Same H H') (h : H D = none) : Same H (delH' H' D) := fun b o e => by
  rw [del_ne (ne_of_none e h)]
  exact s _ _ e
theorem u65 {k : Nat} {A : Around} (hr : Room k A) : A.units + 65 < cLine := by
  have := hr.un
  omega
section
variable {α : Type} {K : PySem.W.Frag} {a : Addr} {xs : List V} {ms : List α} {R : Hp → V → α → Prop} {g : TG} {tb : TS} {D : Ends} {σ : L2.St} {H H0 : Hp}
/-- .. told of the heap H0 -/
theorem for_listG0 (hL : SqL K H0 a xs) (hR : Paired (R H0) xs ms) (Pv : Nat → L2.St → Hp → Prop) (h0 : Pv 0 σ H) (hS : ∀ i σ H, Pv i σ H → Same H0 H)
    (hs : ∀ i x m σ H, i < ms.length → ms[i]? = some m → R H0 x m → Pv i σ H → g x σ H fun σ2 H2 => tb { D with nx := Pv (i + 1), ct := Pv (i + 1), bk := D.nx } σ2 H2) (hd : ∀ σ H, Pv ms.length σ H → D.nx σ H) :
    ∃ W : Nat → Nat → L2.St → Hp → Prop, (∃ m, W 0 m σ H) ∧ ∀ i m σ H, W i m σ H →
      ((Itl K a).stop i H ∧ D.nx σ H) ∨ ((Itl K a).go i H ∧ ∃ N : L2.St → Hp → Prop, (∀ σ' H', N σ' H' → ∃ m', m' < m ∧ W (i + 1) m' σ' H') ∧ ∀ x H', (Itl K a).yld i H x H' → g x σ H' fun σ2 H2 => tb { D with nx := N, ct := N, bk := D.nx } σ2 H2) := by
  have hl : xs.length = ms.length := Paired.length hR
  refine for_list (K := K) (a := a) (xs := xs) Pv h0 (fun i σ H _ h => (hS i σ H h).seq hL) (fun i x σ H hx p => ?_) (fun σ H p => hd σ H (hl ▸ p))
  obtain ⟨m, hm, r⟩ := paired_getI hR hx
  exact hs i x m σ H (List.getElem?_eq_some_iff.mp hm).1 hm r p
end
/-- what is kept of a heap while only d may change -/
theorem same_del {H H' : Hp} {d : Addr} (k : ∀ c u, c ≠ d → H c = some u → H' c = some u) : Same (delH' H d) H' := fun b o e => by
  by_cases hb : b = d
  · subst hb
    rw [del_self] at e
    cases e
  · rw [del_ne hb] at e
    exact k b o hb e
theorem del_mono {H H' : Hp} {D : Addr} (s : Same H H') : Same (delH' H D) (delH' H' D) := fun b o e => by
  by_cases hb : b = D
  · subst hb
    rw [del_self] at e
    cases e
  · rw [del_ne hb] at e ⊢
    exact s _ _ e
/-- such an object is no tuple, list or instance -/
def isExt : HO → Bool
  | .ext _ => true
  | _ => false
theorem blk_delX {C : Addr} {H : Hp} {d : Addr} {o : HO} {v : V} {b : Blk} (hd : H d = some o) (ho : ∀ C dx fs, o ≠ .ins C dx fs) (h : BlkAt C H v b) : BlkAt C (delH' H d) v b := let ⟨a, dx, h1, h2⟩ := h; ⟨a, dx, h1, by rw [del_ne (ne_of h2 hd fun z => ho _ _ _ z.symm)]; exact h2⟩
theorem seg_delX {H : Hp} {d : Addr} {o : HO} {v : V} {s : Seg} (hd : H d = some o) (ho : ∀ xs, o ≠ .tup xs) (h : SegAt H v s) : SegAt (delH' H d) v s := let ⟨a, h1, h2⟩ := h; ⟨a, h1, by rw [del_ne (ne_of h2 hd fun z => ho _ z.symm)]; exact h2⟩
section
variable {α : Type} {K : PySem.W.Frag} {a : Addr} {xs : List V} {ms : List α} {R : Hp → V → α → Prop} {g : TG} {tb : TS} {D : Ends} {σ : L2.St} {H H0 : Hp}
/-- for over enumerate of such a list, told of the heap H0 -/
theorem for_enumG0 (hL : SqL K H0 a xs) (hR : Paired (R H0) xs ms) (Pv : Nat → L2.St → Hp → Prop) (h0 : Pv 0 σ H) (hS : ∀ i σ H, Pv i σ H → Same H0 H)
    (hs : ∀ i x m T σ H, i < ms.length → ms[i]? = some m → R H0 x m → Pv i σ H → H T = none → g (.ref T) σ (upd H T (.tup [.int (i : Nat), x])) fun σ2 H2 => tb { D with nx := Pv (i + 1), ct := Pv (i + 1), bk := D.nx } σ2 H2) (hd : ∀ σ H, Pv ms.length σ H → D.nx σ H) :
    ∃ W : Nat → Nat → L2.St → Hp → Prop, (∃ m, W 0 m σ H) ∧ ∀ i m σ H, W i m σ H →
      ((Ite K a).stop i H ∧ D.nx σ H) ∨ ((Ite K a).go i H ∧ ∃ N : L2.St → Hp → Prop, (∀ σ' H', N σ' H' → ∃ m', m' < m ∧ W (i + 1) m' σ' H') ∧ ∀ x H', (Ite K a).yld i H x H' → g x σ H' fun σ2 H2 => tb { D with nx := N, ct := N, bk := D.nx } σ2 H2) := by
  have hl : xs.length = ms.length := Paired.length hR
  refine for_it walk_enum Pv h0 (fun i σ H _ h => (hS i σ H h).seq hL) (fun i x σ H H' hi p y => ?_) (fun σ H p => hd σ H (hl ▸ p))
  obtain ⟨T, x1, x2, rfl, hT, rfl, e1, e2⟩ := y
  obtain rfl := Option.some.inj e1
  obtain ⟨m, hm, r⟩ := paired_getI hR e2
  exact hs i x2 m T σ H (hl ▸ hi) hm r p hT
end
end CB
end
section
set_option maxHeartbeats 4000000
/-! numbers and blocks -/
namespace CB
open PySem PySem.Spec PyProof.Rows L2 CBM
/-- the built-ins that the text uses, none hidden -/
structure Bi (mg : Str → Option Value) : Prop where
  isinstance : mg "isinstance" = none
  int : mg "int" = none
  bool : mg "bool" = none
  tuple : mg "tuple" = none
  str : mg "str" = none
  list : mg "list" = none
  len : mg "len" = none
  all : mg "all" = none
  any : mg "any" = none
  set : mg "set" = none
  sorted : mg "sorted" = none
  enumerate : mg "enumerate" = none
  sum : mg "sum" = none
  range : mg "range" = none
section
variable {X : Cx} {e : Expr} {es : List Expr} {t : TA} {p q pos : Pos}
theorem bt (n : Str) (T : String) (hg : Gl X n) (hm : X.mg n = none) (hv : bootBuiltins n = some (.type T)) (hn : n ≠ "__name__" := by decide) (hd : (n == ("__debug__" : Str)) = false := by decide) : PE X (.Name n p) (tC (.ty T)) := pe_bltn hg hm hv rfl hn hd
theorem bIsi (B : Bi X.mg) (hg : Gl X "isinstance") (ha : PA X (e :: es) t) (he : starEach (e :: es) X.env = (false, eval e X.env) :: starEach es X.env := by rfl) (hpl : (backTo pos (starEach es X.env)).any (·.1) = false := by rfl) :
    PE X (.Call (.Name "isinstance" p) (e :: es) [] pos) (tCB (rIsi X.K) t) :=
  pe_callB call_isi hg B.isinstance (by decide +kernel) ha (he := he) (hpl := hpl)
end
section
variable {P : Program} {w : World} {K : PySem.W.Frag} {mg : Str → Option Value} {base : Heap}
abbrev sWhole : Stmt := top 10
theorem scWhole : FnScope ["thing"] ["thing"] (defScope sWhole) := ⟨rfl, rfl, rfl, by decide +kernel, rfl, by decide +kernel, by decide +kernel⟩
def spWhole : Sp := fun vs H Q _ => ∃ n : Int, vs = [.int n] ∧ Q (.bl true) H
theorem ok_whole {f : Addr} {fd : FuncData} (F : FnD K "is_whole" "is_whole" sWhole [] f fd) (g : mg "is_whole" = some (.ref f)) (B : Bi mg) : C8.Cal P w K mg base 1 "is_whole" spWhole [] := by
  refine calD F g (F.bindsN fun _ _ _ _ _ _ us hl => match us, hl with | [_], _ => rfl) .nil scWhole (fun vs H Q E h => ?_) (fun cdv A outer s H vs Q E hr h => ?_)
  · obtain ⟨n, rfl, _⟩ := h
    rfl
  · obtain ⟨n, rfl, k⟩ := h
    refine ⟨_, pss_one (ps_ret (pe_and (bIsi B rfl (pa_cons (pv 0) (pa_cons (bt "int" "int" rfl B.int (by decide +kernel)) pa_nil))) (pe_one (pe_not (bIsi B rfl (pa_cons (pv 0) (pa_cons (bt "bool" "bool" rfl B.bool (by decide +kernel)) pa_nil))))))), ?_⟩
    exact ⟨_, rfl, _, _, _, _, true, rfl, .ty "int", .base (.int n), kit_ty (by decide +kernel), true, rfl, _, rfl, _, _, _, _, false, rfl, .ty "bool", .base (.int n), kit_ty (by decide +kernel), false, rfl, k⟩
abbrev sCount : Stmt := top 11
theorem scCount : FnScope ["thing"] ["thing"] (defScope sCount) := ⟨rfl, rfl, rfl, by decide +kernel, rfl, by decide +kernel, by decide +kernel⟩
def spCount : Sp := fun vs H Q _ => ∃ n : Int, vs = [.int n] ∧ Q (.bl (decide (n ≥ 1))) H
theorem ok_count {f : Addr} {fd : FuncData} (F : FnD K "is_count" "is_count" sCount [] f fd) (g : mg "is_count" = some (.ref f)) (c1 : C8.Cal P w K mg base 1 "is_whole" spWhole []) : C8.Cal P w K mg base 2 "is_count" spCount [] := by
  refine calD F g (F.bindsN fun _ _ _ _ _ _ us hl => match us, hl with | [_], _ => rfl) .nil scCount (fun vs H Q E h => ?_) (fun cdv A outer s H vs Q E hr h => ?_)
  · obtain ⟨n, rfl, _⟩ := h
    rfl
  · obtain ⟨n, rfl, k⟩ := h
    refine ⟨_, pss_one (ps_ret (pe_and (C8.pe_c c1 hr (by decide) rfl (pa_cons (pv 0) pa_nil)) (pe_one (pe_cmp (pc_ge (pv 0) pe_int) rfl)))), ?_⟩
    exact ⟨_, rfl, n, rfl, true, rfl, _, rfl, _, _, rfl, rfl, k⟩
abbrev sCell : Stmt := top 12
theorem scCell : FnScope ["thing", "part"] ["thing"] (defScope sCell) := ⟨rfl, rfl, rfl, by decide +kernel, rfl, by decide +kernel, by decide +kernel⟩
/-- a cell: a tuple of two numbers from 1 on -/
def CellAt (H : Hp) (v : V) (n c : Int) : Prop := ∃ a, v = .ref a ∧ H a = some (.tup [.int n, .int c]) ∧ 1 ≤ n ∧ 1 ≤ c
theorem CellAt.same {H H' : Hp} {v : V} {n c : Int} (e : Same H H') (h : CellAt H v n c) : CellAt H' v n c := let ⟨a, h1, h2, h3⟩ := h; ⟨a, h1, e _ _ h2, h3⟩
def spCell : Sp := fun vs H Q _ => ∃ v n c, vs = [v] ∧ CellAt H v n c ∧ ∀ H', Same H H' → Q (.bl true) H'
theorem ok_cell {f : Addr} {fd : FuncData} (F : FnD K "is_cell" "is_cell" sCell [] f fd) (g : mg "is_cell" = some (.ref f)) (B : Bi mg) (c1 : C8.Cal P w K mg base 2 "is_count" spCount []) : C8.Cal P w K mg base 3 "is_cell" spCell [] := by
  refine calD F g (F.bindsN fun _ _ _ _ _ _ us hl => match us, hl with | [_], _ => rfl) .nil scCell (fun vs H Q E h => ?_) (fun cdv A outer s H vs Q E hr h => ?_)
  · obtain ⟨v, n, c, rfl, _⟩ := h
    rfl
  · obtain ⟨v, n, c, rfl, ⟨a, rfl, ha, hn, hc⟩, k⟩ := h
    refine ⟨_, pss_one (ps_ret (pe_and (bIsi B rfl (pa_cons (pv 0) (pa_cons (bt "tuple" "tuple" rfl B.tuple (by decide +kernel)) pa_nil)))
      (pe_and (pe_cmpR op_eq (pe_callB call_len rfl B.len PySem.boot_len (pa_cons (pv 0) pa_nil)) pe_int (nomark _))
      (pe_one (pe_callB (cr_all rfl) rfl B.all (by decide +kernel) (pa_cons (pe_lc (own := [("part", 1)]) (g := gName 1) (tt := tYes) rfl scCell.nd (pi_tup (pv 0)) (blkOk_by (N := ["thing", "part"]) (sc := defScope sCell) (by decide +kernel))
        (fun _ _ _ _ _ => pg_name (i := 1) scCell.nd rfl (Or.inl rfl)) (fun _ _ _ _ _ => pts_nil) (fun _ _ _ _ _ => C8.pe_c c1 hr (by decide) rfl (pa_cons (pv 1) pa_nil))) pa_nil)))))), ?_⟩
    refine ⟨_, rfl, _, _, _, _, true, rfl, .ty "tuple", .base (.tup ha), kit_ty (by decide +kernel), true, rfl, ?_⟩
    refine ⟨_, rfl, _, 2, rfl, Or.inr ⟨_, sqt ha, rfl⟩, rfl, true, rfl, ?_⟩
    refine ⟨_, rfl, a, rfl, ⟨_, sqt ha⟩, fun D hD => lc_tup (K := K) (a := a) (xs := [.int n, .int c]) (fun i H2 => Same H H2 ∧ H2 D = some (.lst (([V.bl true, V.bl true]).take i))) ⟨same_new hD, upd_same⟩ (fun i H2 _ h => sm_tup h.1 (sqt ha)) ?_ ?_⟩
    · rintro i x H2 hx ⟨s2, h2⟩
      have fin : ∀ m : Int, 1 ≤ m → ∀ acc : List V, H2 D = some (.lst acc) → acc.length < 5 → Same H (upd H2 D (.lst (acc ++ [.bl (decide (m ≥ 1))]))) ∧ (upd H2 D (.lst (acc ++ [.bl (decide (m ≥ 1))]))) D = some (.lst (acc ++ [.bl true])) :=
        fun m hm acc _ _ => ⟨fun b o eb => by rw [upd_ne (ne_of_none eb hD)]; exact s2 _ _ eb, by rw [upd_same, decide_eq_true (show m ≥ 1 from hm)]⟩
      match i, hx with
      | 0, hx =>
        obtain rfl := Option.some.inj hx
        exact ⟨rfl, _, rfl, n, rfl, _, h2, sz_lt (by show 0 < 100000; decide), fin n hn _ h2 (by decide)⟩
      | 1, hx =>
        obtain rfl := Option.some.inj hx
        exact ⟨rfl, _, rfl, c, rfl, _, h2, sz_lt (by show 1 < 100000; decide), fin c hc _ h2 (by decide)⟩
      | i + 2, hx => cases hx
    · rintro H2 ⟨s2, h2⟩
      exact ⟨D, [true, true], rfl, sql h2, k H2 s2⟩
abbrev sChkCell : Stmt := top 13
theorem scChkCell : FnScope ["thing"] ["thing"] (defScope sChkCell) := ⟨rfl, rfl, rfl, by decide +kernel, rfl, by decide +kernel, by decide +kernel⟩
def spChkCell : Sp := fun vs H Q _ => ∃ v n c, vs = [v] ∧ CellAt H v n c ∧ ∀ H', Same H H' → Q .non H'
theorem ok_chkcell {f : Addr} {fd : FuncData} (F : FnD K "checked_cell" "checked_cell" sChkCell [] f fd) (g : mg "checked_cell" = some (.ref f)) (c1 : C8.Cal P w K mg base 3 "is_cell" spCell []) : C8.Cal P w K mg base 4 "checked_cell" spChkCell [] := by
  refine calD F g (F.bindsN fun _ _ _ _ _ _ us hl => match us, hl with | [_], _ => rfl) .nil scChkCell (fun vs H Q E h => ?_) (fun cdv A outer s H vs Q E hr h => ?_)
  · obtain ⟨v, n, c, rfl, _⟩ := h
    rfl
  · obtain ⟨v, n, c, rfl, hv, k⟩ := h
    refine ⟨_, pss_one (ps_if (pt_not (pt_val (C8.pe_c c1 hr (by decide) rfl (pa_cons (pv 0) pa_nil)))) (pss_one ps_never) pss_nil), ?_⟩
    exact ⟨_, rfl, v, n, c, rfl, hv, fun H' s' => ⟨true, rfl, iteF (k H' s')⟩⟩
abbrev sEnd : Stmt := top 18
theorem scEnd : FnScope ["first", "last"] ["first", "last"] (defScope sEnd) := ⟨rfl, rfl, rfl, by decide +kernel, rfl, by decide +kernel, by decide +kernel⟩
def spEnd : Sp := fun vs H Q _ => ∃ (i : Int) (o : OI), vs = [.int i, oV o] ∧ 1 ≤ i ∧ okE i o ∧ Q (.bl true) H
theorem ok_end {f : Addr} {fd : FuncData} (F : FnD K "is_end" "is_end" sEnd [] f fd) (g : mg "is_end" = some (.ref f)) (c1 : C8.Cal P w K mg base 2 "is_count" spCount []) : C8.Cal P w K mg base 3 "is_end" spEnd [] := by
  refine calD F g (F.bindsN fun _ _ _ _ _ _ us hl => match us, hl with | [_, _], _ => rfl) .nil scEnd (fun vs H Q E h => ?_) (fun cdv A outer s H vs Q E hr h => ?_)
  · obtain ⟨i, o, rfl, _⟩ := h
    rfl
  · obtain ⟨i, o, rfl, hi, ho, k⟩ := h
    refine ⟨_, pss_one (ps_ret (pe_or (pe_cmp (pc_isN (pv 1)) rfl) (pe_one (pe_and (C8.pe_c c1 hr (by decide) rfl (pa_cons (pv 1) pa_nil)) (pe_one (pe_cmp (pc_ge (pv 1) (pv 0)) rfl)))))), ?_⟩
    cases o with
    | none => exact ⟨_, rfl, true, rfl, iteT k⟩
    | some m =>
      have hm : i ≤ m := ho
      refine ⟨_, rfl, false, rfl, iteF ⟨_, rfl, m, rfl, true, by rw [decide_eq_true (show m ≥ 1 by omega)], iteT ⟨_, rfl, _, rfl, _, _, rfl, rfl, ?_⟩⟩⟩
      show Q (.bl (decide (i ≤ m))) H
      rw [decide_eq_true hm]
      exact k
end
end CB
end
section
set_option maxHeartbeats 4000000
/-! the class Block -/
namespace CB
open PySem PySem.Spec PyProof.Rows L2 CBM
structure BK (K : PySem.W.Frag) (mg : Str → Option Value) (C : Addr) : Prop where
  cl : Cls K C
  nt : NoAttr K C "top"
  nl : NoAttr K C "left"
  nb : NoAttr K C "bottom"
  nr : NoAttr K C "right"
  mg : mg "Block" = some (.ref C)
  kp : PySem.W.keepIn K (.ref C) = true
  ins : C8.InsC K C
section
variable {P : Program} {w : World} {K : PySem.W.Frag} {mg : Str → Option Value} {base : Heap} {C : Addr}
abbrev sBInit : Stmt := inClass (top 23) 0
theorem scBInit : FnScope ["self", "top", "left", "bottom", "right"] ["self", "top", "left", "bottom", "right"] (defScope sBInit) := ⟨rfl, rfl, rfl, by decide +kernel, rfl, by decide +kernel, by decide +kernel⟩
def spBInit (C : Addr) : Sp := fun vs H Q _ => ∃ (x dx : Addr) (b : Blk), vs = [.ref x, .int b.t, .int b.l, oV b.b, oV b.r] ∧ okB b ∧ H x = some (.ins C dx []) ∧ Q .non (upd H x (.ins C dx (bF b.t b.l b.b b.r)))
abbrev dvB : List V := [.int 1, .int 1, .non, .non]
theorem ok_binit {f : Addr} {fd : FuncData} {ds : List Value} {dvs : List V} (F : FnD K "__init__" "Block.__init__" sBInit dvB f fd) (b : Binds K fd ["self", "top", "left", "bottom", "right"] ds) (d : Vals dvs ds) (M : Mk K C f) (T : BK K mg C)
    (c1 : C8.Cal P w K mg base 2 "is_count" spCount []) (c2 : C8.Cal P w K mg base 3 "is_end" spEnd []) : C8.Mak P w K mg base 4 "Block" C (spBInit C) dvs := by
  refine makD M T.mg F b d scBInit (fun vs H Q E h => ?_) (fun cdv A outer s H vs Q E hr h => ?_)
  · obtain ⟨x, dx, b, rfl, _⟩ := h
    rfl
  · obtain ⟨x, dx, b, rfl, ⟨h1, h2, h3, h4⟩, hx, k⟩ := h
    refine ⟨_, pss_cons (ps_if (PW.pt (pw_or (pt_not (pt_val (C8.pe_c c1 hr (by decide) rfl (pa_cons (pv 1) pa_nil)))) (pw_or (pt_not (pt_val (C8.pe_c c1 hr (by decide) rfl (pa_cons (pv 2) pa_nil))))
      (pw_or (pt_not (pt_val (C8.pe_c c2 hr (by decide) rfl (pa_cons (pv 1) (pa_cons (pv 3) pa_nil))))) (pw_or1 (pt_not (pt_val (C8.pe_c c2 hr (by decide) rfl (pa_cons (pv 2) (pa_cons (pv 4) pa_nil))))))))))
      (pss_one ps_never) pss_nil)
      (pss_cons (ps_fld (pv 0) (pv 1) rfl) (pss_cons (ps_fld (pv 0) (pv 2) rfl) (pss_cons (ps_fld (pv 0) (pv 3) rfl) (pss_one (ps_fld (pv 0) (pv 4) rfl))))), ?_⟩
    refine ⟨_, rfl, _, rfl, true, by rw [decide_eq_true (show b.t ≥ 1 from h1)], iteF ⟨_, rfl, _, rfl, true, by rw [decide_eq_true (show b.l ≥ 1 from h2)], iteF ⟨_, rfl, _, rfl, b.t, b.b, rfl, h1, h3, true, rfl, iteF ⟨_, rfl, _, rfl, b.l, b.r, rfl, h2, h4, true, rfl, iteF ?_⟩⟩⟩⟩
    refine ⟨_, rfl, _, rfl, x, C, dx, _, rfl, hx, T.cl, T.nt, (by show 0 < 1000; decide), _, rfl, _, rfl, x, C, dx, _, rfl, upd_same, T.cl, T.nl, (by show 1 < 1000; decide),
      _, rfl, _, rfl, x, C, dx, _, rfl, upd_same, T.cl, T.nb, (by show 2 < 1000; decide), _, rfl, _, rfl, x, C, dx, _, rfl, upd_same, T.cl, T.nr, (by show 3 < 1000; decide), ?_⟩
    rw [upd_upd, upd_upd, upd_upd]
    exact k
abbrev sBEq : Stmt := inClass (top 23) 1
theorem scBEq : FnScope ["self", "other", "here"] ["self", "other"] (defScope sBEq) := ⟨rfl, rfl, rfl, by decide +kernel, rfl, by decide +kernel, by decide +kernel⟩
/-- the same block at both -/
def SameB (C : Addr) (a b : Addr) (H : Hp) : Prop := ∃ z : Blk, BlkAt C H (.ref a) z ∧ BlkAt C H (.ref b) z
def oD : OI → PyData
  | none => .none
  | some i => .int i
theorem oD_dp {K : PySem.W.Frag} {H : Hp} (o : OI) : Dp K H (oV o) (oD o) := by
  cases o
  · exact .non
  · exact .int _
theorem sh4 (a b : Int) (o p : OI) : SeqAt.shaped (.tuple [.int a, .int b, oD o, oD p]) = true := by
  cases o <;> cases p <;> simp [SeqAt.shaped, PyData.canLay0, PyData.canLayAll0, PyData.depth, PyData.depthAll, oD]
theorem eqv_same {d : PyData} (h : SeqAt.shaped d = true) : PyData.eqv d d = true := SeqAt.eqv_refl d (SeqAt.canLay_of_shaped h)
theorem ok_beq {f : Addr} {fd : FuncData} (F : FnD K "__eq__" "Block.__eq__" sBEq [] f fd) (T : BK K mg C) (B : Bi mg) : FnOk P w K mg base C8.CX0 1 f fd ["self", "other"] (spEq (SameB C)) := by
  refine F.ok scBEq (fun vs H Q E h => ?_) (fun cdv A outer s H vs Q E hr h => ?_)
  · obtain ⟨a, b, rfl, _⟩ := h
    rfl
  · obtain ⟨a, b, rfl, ⟨z, ⟨a', dx, e1, ha⟩, ⟨b', dy, e2, hb⟩⟩, k⟩ := h
    cases e1
    cases e2
    refine ⟨_, PSs.nox (pss_cons (ps_if (pt_not (pt_val (pe_callB (C8.call_isC T.ins) rfl B.isinstance (by decide +kernel) (pa_cons (pv 1) (pa_cons (C8.pe_gc (v := .ref C) rfl ⟨_, T.mg, rfl⟩) pa_nil))))) (pss_one (ps_ret pe_bl)) pss_nil)
      (pss_cons (ps_set (i := 2) scBEq.nd rfl (Or.inl rfl) (pe_tup (pa_cons (pe_fld (pv 0) rfl) (pa_cons (pe_fld (pv 0) rfl) (pa_cons (pe_fld (pv 0) rfl) (pa_cons (pe_fld (pv 0) rfl) pa_nil))))))
      (pss_one (ps_ret (pe_cmpR (op_eqD hr.units) (pv 2) (pe_tup (pa_cons (pe_fld (pv 1) rfl) (pa_cons (pe_fld (pv 1) rfl) (pa_cons (pe_fld (pv 1) rfl) (pa_cons (pe_fld (pv 1) rfl) pa_nil))))) (nomark _)))))), ?_⟩
    refine ⟨_, rfl, b, dy, _, rfl, hb, true, rfl, iteF ?_⟩
    refine ⟨_, rfl, a, C, dx, _, _, rfl, ha, T.cl, T.nt, bF_top, _, rfl, a, C, dx, _, _, rfl, ha, T.cl, T.nl, bF_left, _, rfl, a, C, dx, _, _, rfl, ha, T.cl, T.nb, bF_bottom, _, rfl, a, C, dx, _, _, rfl, ha, T.cl, T.nr, bF_right,
      (by show 4 ≤ sizeLine; decide), fun p hp => ?_⟩
    have hb1 : (upd H p (.tup [.int z.t, .int z.l, oV z.b, oV z.r])) b = some (.ins C dy (bF z.t z.l z.b z.r)) := by rw [upd_ne (ne_of_none hb hp)]; exact hb
    refine ⟨_, rfl, _, rfl, b, C, dy, _, _, rfl, hb1, T.cl, T.nt, bF_top, _, rfl, b, C, dy, _, _, rfl, hb1, T.cl, T.nl, bF_left, _, rfl, b, C, dy, _, _, rfl, hb1, T.cl, T.nb, bF_bottom, _, rfl, b, C, dy, _, _, rfl, hb1, T.cl, T.nr, bF_right,
      (by show 4 ≤ sizeLine; decide), fun q hq => ?_⟩
    have hp1 : (upd (upd H p (.tup [.int z.t, .int z.l, oV z.b, oV z.r])) q (.tup [.int z.t, .int z.l, oV z.b, oV z.r])) p = some (.tup [.int z.t, .int z.l, oV z.b, oV z.r]) := by
      rw [upd_ne (ne_of_none upd_same hq), upd_same]
    refine ⟨.tuple [.int z.t, .int z.l, oD z.b, oD z.r], .tuple [.int z.t, .int z.l, oD z.b, oD z.r], .tup (sqt hp1) (.cons (.int _) (.cons (.int _) (.cons (oD_dp _) (.cons (oD_dp _) .nil)))),
      .tup (sqt upd_same) (.cons (.int _) (.cons (.int _) (.cons (oD_dp _) (.cons (oD_dp _) .nil)))), sh4 _ _ _ _, sh4 _ _ _ _, ?_⟩
    show Q (.bl (PyData.eqv _ _)) _
    rw [eqv_same (sh4 _ _ _ _)]
    exact k _ ((same_new hp).trans (same_new hq))
abbrev sBHas : Stmt := inClass (top 23) 4
theorem scBHas : FnScope ["self", "cell", "row", "column"] ["self", "cell"] (defScope sBHas) := ⟨rfl, rfl, rfl, by decide +kernel, rfl, by decide +kernel, by decide +kernel⟩
def spBHas (C : Addr) : Sp := fun vs H Q _ => ∃ v u b n c, vs = [v, u] ∧ BlkAt C H v b ∧ CellAt H u n c ∧ ∀ H', Same H H' → Q (.bl (inB b n c)) H'
theorem oV_none {o : OI} : decide (oV o = .non) = o.isNone := by cases o <;> simp [oV]
theorem inS_lt {f n : Int} {o : OI} (h : n < f) : inS f o n = false := by
  have h2 : ¬ f ≤ n := by omega
  simp [inS, h2]
theorem inS_none {f n : Int} (h : ¬ n < f) : inS f none n = true := by
  have h2 : f ≤ n := by omega
  simp [inS, h2]
theorem inS_some {f n m : Int} (h : ¬ n < f) : inS f (some m) n = decide (n ≤ m) := by
  have h2 : f ≤ n := by omega
  simp [inS, h2]
theorem ok_bhas {f : Addr} {fd : FuncData} (F : FnD K "has" "Block.has" sBHas [] f fd) (me : Meth K C "has" f) (T : BK K mg C) (c1 : C8.Cal P w K mg base 4 "checked_cell" spChkCell []) : C8.Met P w K mg base 5 C "has" (spBHas C) [] := by
  refine metD T.cl me F (F.bindsN fun _ _ _ _ _ _ us hl => match us, hl with | [_, _], _ => rfl) .nil scBHas (fun vs H Q E h => ?_) (fun cdv A outer s H vs Q E hr h => ?_)
  · obtain ⟨v, u, b, n, c, rfl, _⟩ := h
    rfl
  · obtain ⟨v, u, b, n, c, rfl, hb, hc, k⟩ := h
    refine ⟨_, pss_cons (ps_expr (C8.pe_c c1 hr (by decide) rfl (pa_cons (pv 1) pa_nil)))
      (pss_cons (ps_asg (pv 1) (pg_tup (by rfl) (pgs_cons (pg_name (i := 2) scBHas.nd rfl (.inl rfl)) (pgs_cons (pg_name (i := 3) scBHas.nd rfl (.inl rfl)) pgs_nil))))
      (pss_cons (ps_if (PW.pt (pw_or (pt_cmpR op_lt (pv 2) (pe_fld (pv 0) rfl) (nomark _)) (pw_or1 (pt_cmpR op_lt (pv 3) (pe_fld (pv 0) rfl) (nomark _))))) (pss_one (ps_ret pe_bl)) pss_nil)
      (pss_one (ps_ret (pe_and (pe_or (pe_cmp (pc_isN (pe_fld (pv 0) rfl)) rfl) (pe_one (pe_cmp (pc_le (pv 2) (pe_fld (pv 0) rfl)) rfl)))
        (pe_one (pe_or (pe_cmp (pc_isN (pe_fld (pv 0) rfl)) rfl) (pe_one (pe_cmp (pc_le (pv 3) (pe_fld (pv 0) rfl)) rfl))))))))), ?_⟩
    refine ⟨_, rfl, u, n, c, rfl, hc, fun H' s1 => ?_⟩
    obtain ⟨a, dx, rfl, ha⟩ := hb.same s1
    obtain ⟨p, rfl, hp, _⟩ := hc.same s1
    refine ⟨_, rfl, p, _, rfl, sqt hp, rfl, _, _, rfl, _, _, rfl, rfl, ?_⟩
    refine ⟨_, rfl, _, rfl, a, C, dx, _, _, rfl, ha, T.cl, T.nt, bF_top, n, b.t, rfl, rfl, decide (n < b.t), rfl, ite2 (fun h => ?_) (fun h => ?_)⟩
    · have e : inB b n c = false := by
        unfold inB
        rw [inS_lt (of_decide_eq_true h), Bool.false_and]
      rw [e] at k
      exact iteT (k H' s1)
    have h1 : ¬ n < b.t := fun z => h (decide_eq_true z)
    refine ⟨_, rfl, _, rfl, a, C, dx, _, _, rfl, ha, T.cl, T.nl, bF_left, c, b.l, rfl, rfl, decide (c < b.l), rfl, ite2 (fun h => ?_) (fun h => ?_)⟩
    · have e : inB b n c = false := by
        unfold inB
        rw [inS_lt (f := b.l) (of_decide_eq_true h), Bool.and_false]
      rw [e] at k
      exact k H' s1
    have h2 : ¬ c < b.l := fun z => h (decide_eq_true z)
    have k1 := k H' s1
    clear k hb
    obtain ⟨t, l, o, r⟩ := b
    dsimp only at ha h1 h2 k1
    unfold inB at k1
    dsimp only at k1
    cases o with
    | none =>
      rw [inS_none h1, Bool.true_and] at k1
      cases r with
      | none =>
        rw [inS_none h2] at k1
        exact ⟨_, rfl, a, C, dx, _, _, rfl, ha, T.cl, T.nb, bF_bottom, true, rfl, iteT ⟨true, rfl, iteT ⟨_, rfl, a, C, dx, _, _, rfl, ha, T.cl, T.nr, bF_right, true, rfl, iteT k1⟩⟩⟩
      | some q =>
        rw [inS_some h2] at k1
        exact ⟨_, rfl, a, C, dx, _, _, rfl, ha, T.cl, T.nb, bF_bottom, true, rfl, iteT ⟨true, rfl, iteT ⟨_, rfl, a, C, dx, _, _, rfl, ha, T.cl, T.nr, bF_right, false, rfl, iteF ⟨_, rfl, _, rfl, a, C, dx, _, _, rfl, ha, T.cl, T.nr, bF_right, c, q, rfl, rfl, k1⟩⟩⟩⟩
    | some m =>
      rw [inS_some h1] at k1
      refine ⟨_, rfl, a, C, dx, _, _, rfl, ha, T.cl, T.nb, bF_bottom, false, rfl, iteF ⟨_, rfl, _, rfl, a, C, dx, _, _, rfl, ha, T.cl, T.nb, bF_bottom, n, m, rfl, rfl, decide (n ≤ m), rfl, ?_⟩⟩
      cases hd : decide (n ≤ m) with
      | false =>
        rw [hd, Bool.false_and] at k1
        exact iteF k1
      | true =>
        rw [hd, Bool.true_and] at k1
        refine iteT ?_
        cases r with
        | none =>
          rw [inS_none h2] at k1
          exact ⟨_, rfl, a, C, dx, _, _, rfl, ha, T.cl, T.nr, bF_right, true, rfl, iteT k1⟩
        | some q =>
          rw [inS_some h2] at k1
          exact ⟨_, rfl, a, C, dx, _, _, rfl, ha, T.cl, T.nr, bF_right, false, rfl, iteF ⟨_, rfl, _, rfl, a, C, dx, _, _, rfl, ha, T.cl, T.nr, bF_right, c, q, rfl, rfl, k1⟩⟩
abbrev sBSize : Stmt := inClass (top 23) 5
theorem scBSize : FnScope ["self"] ["self"] (defScope sBSize) := ⟨rfl, rfl, rfl, by decide +kernel, rfl, by decide +kernel, by decide +kernel⟩
/-- of a block with both ends, the second factor small -/
def spBSize (C : Addr) : Sp := fun vs H Q _ => ∃ v b m q, vs = [v] ∧ BlkAt C H v b ∧ b.b = some m ∧ b.r = some q ∧ -(2 ^ 64) < q - b.l + 1 ∧ q - b.l + 1 < 2 ^ 64 ∧ Q (.int ((m - b.t + 1) * (q - b.l + 1))) H
theorem ok_bsize {f : Addr} {fd : FuncData} (F : FnD K "size" "Block.size" sBSize [] f fd) (me : Meth K C "size" f) (T : BK K mg C) : C8.Met P w K mg base 1 C "size" (spBSize C) [] := by
  refine metD T.cl me F (F.bindsN fun _ _ _ _ _ _ us hl => match us, hl with | [_], _ => rfl) .nil scBSize (fun vs H Q E h => ?_) (fun cdv A outer s H vs Q E hr h => ?_)
  · obtain ⟨v, b, m, q, rfl, _⟩ := h
    rfl
  · obtain ⟨v, ⟨t, l, o, r⟩, m, q, rfl, ⟨a, dx, rfl, ha⟩, hm, hq, h1, h2, k⟩ := h
    dsimp only at hm hq h1 h2 k ha
    subst hm hq
    refine ⟨_, pss_cons (ps_if (PW.pt (pw_or (pt_cmpR op_isN (pe_fld (pv 0) rfl) pe_non (nomark _)) (pw_or1 (pt_cmpR op_isN (pe_fld (pv 0) rfl) pe_non (nomark _))))) (pss_one (ps_ret pe_non)) pss_nil)
      (pss_one (ps_ret (pe_op op_mul (pe_op op_add (pe_op op_sub (pe_fld (pv 0) rfl) (pe_fld (pv 0) rfl)) pe_int) (pe_op op_add (pe_op op_sub (pe_fld (pv 0) rfl) (pe_fld (pv 0) rfl)) pe_int)))), ?_⟩
    refine ⟨_, rfl, a, C, dx, _, _, rfl, ha, T.cl, T.nb, bF_bottom, rfl, false, rfl, iteF ⟨_, rfl, a, C, dx, _, _, rfl, ha, T.cl, T.nr, bF_right, rfl, false, rfl, iteF ?_⟩⟩
    exact ⟨_, rfl, a, C, dx, _, _, rfl, ha, T.cl, T.nb, bF_bottom, _, rfl, a, C, dx, _, _, rfl, ha, T.cl, T.nt, bF_top, _, _, rfl, rfl, _, _, rfl, rfl,
      _, rfl, a, C, dx, _, _, rfl, ha, T.cl, T.nr, bF_right, _, rfl, a, C, dx, _, _, rfl, ha, T.cl, T.nl, bF_left, _, _, rfl, rfl, _, _, rfl, rfl, _, _, rfl, rfl, .inr ⟨h1, h2⟩, k⟩
end
end CB
end
section
set_option maxHeartbeats 4000000
/-! stretches, runs, bands -/
namespace CB
open PySem PySem.Spec PyProof.Rows L2 CBM
section
variable {P : Program} {w : World} {K : PySem.W.Frag} {mg : Str → Option Value} {base : Heap} {C : Addr}
abbrev sAt : Stmt := top 27
theorem scAt : FnScope ["first", "last", "number"] ["first", "last", "number"] (defScope sAt) := ⟨rfl, rfl, rfl, by decide +kernel, rfl, by decide +kernel, by decide +kernel⟩
def spAt : Sp := fun vs H Q _ => ∃ (f : Int) (e : OI) (n : Int), vs = [.int f, oV e, .int n] ∧ Q (.bl (inS f e n)) H
theorem ok_at {f : Addr} {fd : FuncData} (F : FnD K "is_at" "is_at" sAt [] f fd) (g : mg "is_at" = some (.ref f)) : C8.Cal P w K mg base 1 "is_at" spAt [] := by
  refine calD F g (F.bindsN fun _ _ _ _ _ _ us hl => match us, hl with | [_, _, _], _ => rfl) .nil scAt (fun vs H Q E h => ?_) (fun cdv A outer s H vs Q E hr h => ?_)
  · obtain ⟨f, e, n, rfl, _⟩ := h
    rfl
  · obtain ⟨f, e, n, rfl, k⟩ := h
    refine ⟨_, pss_one (ps_ret (pe_and (pe_cmp (pc_le (pv 0) (pv 2)) rfl) (pe_one (pe_or (pe_cmp (pc_isN (pv 1)) rfl) (pe_one (pe_cmp (pc_le (pv 2) (pv 1)) rfl)))))), ?_⟩
    refine ⟨_, rfl, _, rfl, f, n, rfl, rfl, decide (f ≤ n), rfl, ?_⟩
    cases hd : decide (f ≤ n) with
    | false =>
      unfold inS at k
      rw [hd, Bool.false_and] at k
      exact iteF k
    | true =>
      refine iteT ?_
      have h1 : ¬ n < f := by have := of_decide_eq_true hd; omega
      cases e with
      | none =>
        rw [inS_none h1] at k
        exact ⟨_, rfl, true, rfl, iteT k⟩
      | some m =>
        rw [inS_some h1] at k
        exact ⟨_, rfl, false, rfl, iteF ⟨_, rfl, _, rfl, n, m, rfl, rfl, k⟩⟩
theorem addK_map {ks : List Int} {k : Int} : addK (ks.map (Sum.inl (β := Str))) (Sum.inl k) = (addK ks k).map Sum.inl := by
  unfold addK
  by_cases h : k ∈ ks
  · rw [if_pos h, if_pos (List.mem_map.mpr ⟨k, h, rfl⟩)]
  · rw [if_neg h, if_neg (fun z => h (by obtain ⟨j, hj, e⟩ := List.mem_map.mp z; cases e; exact hj))]
    rfl
theorem addKs_map : ∀ {l ks : List Int}, addKs (ks.map (Sum.inl (β := Str))) (l.map Sum.inl) = (addKs ks l).map Sum.inl
  | [], _ => rfl
  | k :: l, ks => by
    show addKs (addK (ks.map Sum.inl) (Sum.inl k)) (l.map Sum.inl) = (addKs (addK ks k) l).map Sum.inl
    rw [addK_map, addKs_map]
theorem addK_nd {κ : Type} [DecidableEq κ] {ks : List κ} {k : κ} (h : ks.Nodup) : (addK ks k).Nodup := by
  unfold addK
  split
  · exact h
  · exact List.nodup_cons.mpr ⟨by assumption, h⟩
theorem addKs_nd {κ : Type} [DecidableEq κ] : ∀ {l ks : List κ}, ks.Nodup → (addKs ks l).Nodup
  | [], _, h => h
  | _ :: l, _, h => addKs_nd (l := l) (addK_nd h)
/-- what sorted(set(xs)) of ints is -/
theorem sorted_ints {ys cs : List Int} (p : ys.Perm (addKs [] cs)) (hp : ys.Pairwise (fun a b => PySem.W.dataLe false (fun b : Int => PyData.int b) a b = true)) : ys = sortU cs := by
  refine sortU_of (hp.imp fun {a b} h => ?_) (p.nodup_iff.mpr (addKs_nd List.nodup_nil)) fun x => by rw [p.mem_iff, mem_addKs]; simp
  rw [PySem.W.dataLe_int (fun b : Int => b)] at h
  exact of_decide_eq_true h
abbrev sStr : Stmt := top 28
theorem scStr : FnScope ["cuts", "found", "k", "first", "last"] ["cuts"] (defScope sStr) := ⟨rfl, rfl, rfl, by decide +kernel, rfl, by decide +kernel, by decide +kernel⟩
def spStr : Sp := fun vs H Q _ => ∃ (a : Addr) (cs : List Int), vs = [.ref a] ∧ H a = some (.lst (cs.map V.int)) ∧ cs.length ≤ 4000 ∧ ∀ H' p, Same H H' → H p = none → Segs H' p (stretches cs) → Q (.ref p) H'
theorem ok_str {f : Addr} {fd : FuncData} (F : FnD K "stretches" "stretches" sStr [] f fd) (g : mg "stretches" = some (.ref f)) (B : Bi mg) : C8.Cal P w K mg base 2 "stretches" spStr [] := by
  refine calD F g (F.bindsN fun _ _ _ _ _ _ us hl => match us, hl with | [_], _ => rfl) .nil scStr (fun vs H Q E h => ?_) (fun cdv A outer s H vs Q E hr h => ?_)
  · obtain ⟨a, cs, rfl, _⟩ := h
    rfl
  · obtain ⟨a, cs, rfl, ha, hz, k⟩ := h
    refine ⟨_, pss_cons (ps_set (i := 0) scStr.nd rfl (Or.inl rfl) (pe_callB (call_sortedIP P w rfl rfl rfl hr) rfl B.sorted (by decide +kernel) (pa_cons (pe_callTy (call_setP P w K rfl rfl rfl rfl) rfl B.set (by decide +kernel) (pa_cons (pv 0) pa_nil)) pa_nil)))
      (pss_cons (ps_set (i := 1) scStr.nd rfl (Or.inl rfl) (pe_lst pa_nil))
      (pss_cons (ps_for PassesOwn.never rfl (pi_enum rfl B.enumerate (pa_cons (pv 0) pa_nil)) (pg_tup rfl (pgs_cons (pg_name (i := 2) scStr.nd rfl (.inl rfl)) (pgs_cons (pg_name (i := 3) scStr.nd rfl (.inl rfl)) pgs_nil)))
        (pss_cons (ps_set (i := 4) scStr.nd rfl (Or.inl rfl) pe_non)
        (pss_cons (ps_if (pt_cmpR op_lt (pe_op op_add (pv 2) pe_int) (pe_callB call_len rfl B.len PySem.boot_len (pa_cons (pv 0) pa_nil)) (nomark _))
          (pss_one (ps_set (i := 4) scStr.nd rfl (Or.inl rfl) (pe_op op_sub (pe_ix ix_list (pv 0) (pe_op op_add (pv 2) pe_int) (fun _ _ => rfl)) pe_int))) pss_nil)
        (pss_one (ps_expr (pe_bm PySem.F.plainAttrs_list PySem.F.slot_list_append PySem.F.type_list_append mt_append (pv 1) (pa_cons (pe_tup (pa_cons (pv 3) (pa_cons (pv 4) pa_nil))) pa_nil)))))))
      (pss_one (ps_ret (pv 1))))), ?_⟩
    refine ⟨_, rfl, a, cs.map Sum.inl, rfl, sql (by rw [List.map_map]; exact ha), by rw [List.length_map]; omega, fun p hp => ⟨p, addKs [] cs, rfl, ?_, fun ys q hpm hpw hq => ?_⟩⟩
    · rw [upd_same]
      exact congrArg (fun l => some (setO P w p l)) (addKs_map (l := cs) (ks := []))
    have hys : ys = sortU cs := sorted_ints hpm hpw
    clear hpm hpw
    have hs0 : Same H (upd (upd H p (setO P w p (addKs [] (cs.map Sum.inl)))) q (.lst (ys.map fun b => kV (Sum.inl b)))) := (same_new hp).trans (same_new hq)
    have hq0 : (upd (upd H p (setO P w p (addKs [] (cs.map Sum.inl)))) q (.lst (ys.map fun b => kV (Sum.inl b)))) q = some (.lst (ys.map V.int)) := upd_same
    have hlen : ys.length ≤ 4000 := by
      have := sortU_len cs
      rw [hys]
      omega
    generalize upd (upd H p (setO P w p (addKs [] (cs.map Sum.inl)))) q (.lst (ys.map fun b => kV (Sum.inl b))) = H0 at hs0 hq0
    refine ⟨Nat.zero_le _, fun D hD => ?_⟩
    have hs1 : Same H0 (upd H0 D (.lst [])) := same_new hD
    refine ⟨_, rfl, q, ys.map V.int, rfl, hs1.seq (sql hq0), ?_⟩
    refine for_enumG (H0 := H0) (sql hq0) (intV_all ys) (fun _ h => h) (fun i σ H2 => ∃ k f l, σ = [some (.ref q), some (.ref D), k, f, l] ∧ Same H0 H2 ∧ Segs H2 D ((strS ys).take i)) ⟨_, _, _, rfl, hs1, [], upd_same, by rw [List.take_zero]; exact .nil⟩ (fun i σ H2 ⟨_, _, _, _, s2, _⟩ => s2) ?_ ?_
    · rintro i x y T σ H2 hi hyi rfl ⟨k', f', l', rfl, s2, acc, hacc, hp2⟩ hT
      have s3 : Same H2 (upd H2 T (.tup [.int (i : Nat), .int y])) := same_new hT
      have q3 := (s2.trans s3) _ _ hq0
      have D3 := s3 _ _ hacc
      have p3 := paired_imp (fun _ _ => SegAt.same s3) hp2
      have sg : (strS ys).take (i + 1) = (strS ys).take i ++ [(y, ys[i + 1]?.map (· - 1))] := take_succ' (by rw [strS_get, hyi]; rfl)
      have s4 : Same H0 _ := s2.trans s3
      clear s2 hp2 hacc
      have hT3 : (upd H2 T (.tup [.int (i : Nat), .int y])) T = some (.tup [.int (i : Nat), .int y]) := upd_same
      generalize upd H2 T (.tup [.int (i : Nat), .int y]) = H3 at q3 D3 p3 s4 hT3
      have hal : acc.length < sizeLine := by
        have h1 := Paired.length p3
        rw [h1, List.length_take, strS_len]
        exact sz_lt (by omega)
      -- the rest of the turn, from the last end on
      have fin : ∀ o : OI, o = ys[i + 1]?.map (· - 1) → ∀ t, H3 t = none → Same H0 (upd (upd H3 t (.tup [.int y, oV o])) D (.lst (acc ++ [.ref t]))) ∧ Segs (upd (upd H3 t (.tup [.int y, oV o])) D (.lst (acc ++ [.ref t]))) D ((strS ys).take (i + 1)) := by
        rintro o rfl t ht
        have s5 : Same H3 (upd H3 t (.tup [.int y, oV (ys[i + 1]?.map (· - 1))])) := same_new ht
        have D5 := s5 _ _ D3
        refine ⟨sm_mut (s4.trans s5) hD, _, upd_same, ?_⟩
        rw [sg]
        exact paired_snoc' (paired_imp (fun _ _ z => SegAt.same del_upd (seg_del D5 (SegAt.same s5 z))) p3) (SegAt.same del_upd (seg_del D5 ⟨t, rfl, upd_same⟩))
      refine ⟨T, _, rfl, sqt hT3, rfl, _, _, rfl, _, _, rfl, rfl, ?_⟩
      refine ⟨_, rfl, _, _, rfl, rfl, _, rfl, _, _, rfl, .inl ⟨_, sql q3, rfl⟩, _, _, rfl, rfl, _, rfl, ?_⟩
      refine ite2 (fun hc => ?_) (fun hc => ?_)
      · have hc' := of_decide_eq_true hc
        rw [List.length_map] at hc'
        have hi1 : i + 1 < ys.length := by omega
        have hy1 : ys[i + 1]? = some ys[i + 1] := List.getElem?_eq_getElem hi1
        generalize ys[i + 1] = y1 at hy1
        refine ⟨_, rfl, _, rfl, _, _, rfl, rfl, q, _, ((i + 1 : Nat) : Int), .int y1, rfl, by rw [Int.natCast_add]; rfl, sql q3, atI_nat (by rw [List.getElem?_map, hy1]; rfl), _, _, rfl, rfl, ?_⟩
        refine ⟨_, rfl, Or.inl ⟨rfl, _, sql D3⟩, _, rfl, _, rfl, (by show 2 ≤ sizeLine; decide), fun t ht => ⟨D, _, _, rfl, rfl, ?_, hal, ?_⟩⟩
        · rw [upd_ne (ne_of_none D3 ht)]
          exact D3
        · have z := fin (some (y1 - 1)) (by rw [hy1]; rfl) t ht
          exact ⟨_, _, _, rfl, z.1, z.2⟩
      · have hc' : ¬ ((i : Int) + 1 < ((ys.map V.int).length : Int)) := fun z => hc (decide_eq_true z)
        rw [List.length_map] at hc'
        have hy1 : ys[i + 1]? = none := List.getElem?_eq_none (by omega)
        refine ⟨_, rfl, Or.inl ⟨rfl, _, sql D3⟩, _, rfl, _, rfl, (by show 2 ≤ sizeLine; decide), fun t ht => ⟨D, _, _, rfl, rfl, ?_, hal, ?_⟩⟩
        · rw [upd_ne (ne_of_none D3 ht)]
          exact D3
        · have z := fin none (by rw [hy1]; rfl) t ht
          exact ⟨_, _, _, rfl, z.1, z.2⟩
    · rintro σ H2 ⟨k', f', l', rfl, s2, h2⟩
      rw [List.take_of_length_le (by rw [strS_len]; exact Nat.le_refl _), hys] at h2
      exact ⟨_, rfl, k H2 D (hs0.trans s2) (hs0.free hD) h2⟩
abbrev sCuts : Stmt := top 29
theorem scCuts : FnScope ["ends", "first", "last"] ["ends"] (defScope sCuts) := ⟨rfl, rfl, rfl, by decide +kernel, rfl, by decide +kernel, by decide +kernel⟩
def spCuts : Sp := fun vs H Q _ => ∃ (a : Addr) (ss : List Seg), vs = [.ref a] ∧ Segs H a ss ∧ ss.length ≤ 2000 ∧ ∀ H' p, Same H H' → H p = none → H' p = some (.lst ((cutsOf ss).map V.int)) → Q (.ref p) H'
theorem ok_cuts {f : Addr} {fd : FuncData} (F : FnD K "cuts_of" "cuts_of" sCuts [] f fd) (g : mg "cuts_of" = some (.ref f)) : C8.Cal P w K mg base 1 "cuts_of" spCuts [] := by
  refine calD F g (F.bindsN fun _ _ _ _ _ _ us hl => match us, hl with | [_], _ => rfl) .nil scCuts (fun vs H Q E h => ?_) (fun cdv A outer s H vs Q E hr h => ?_)
  · obtain ⟨a, ss, rfl, _⟩ := h
    rfl
  · obtain ⟨a, ss, rfl, ⟨xs, ha, hp⟩, hz, k⟩ := h
    refine ⟨_, pss_one (ps_ret (pe_op op_cat
      (pe_lc (own := [("first", 1), ("last", 2)]) (g := gTup K 2 (gCons (gName 1) (gCons (gName 2) gNil))) (tt := tYes) rfl scCuts.nd (pi_list (pv 0)) (blkOk_by (N := ["ends", "first", "last"]) (sc := defScope sCuts) (by decide +kernel))
        (fun _ _ _ _ _ => pg_tup rfl (pgs_cons (pg_name (i := 1) scCuts.nd rfl (Or.inl rfl)) (pgs_cons (pg_name (i := 2) scCuts.nd rfl (Or.inl rfl)) pgs_nil))) (fun _ _ _ _ _ => pts_nil) (fun _ _ _ _ _ => pv 1))
      (pe_lc (own := [("first", 1), ("last", 2)]) (g := gTup K 2 (gCons (gName 1) (gCons (gName 2) gNil))) rfl scCuts.nd (pi_list (pv 0)) (blkOk_by (N := ["ends", "first", "last"]) (sc := defScope sCuts) (by decide +kernel))
        (fun _ _ _ _ _ => pg_tup rfl (pgs_cons (pg_name (i := 1) scCuts.nd rfl (Or.inl rfl)) (pgs_cons (pg_name (i := 2) scCuts.nd rfl (Or.inl rfl)) pgs_nil))) (fun _ _ _ _ _ => pts_one (pt_cmpR op_notN (pv 2) pe_non (nomark _))) (fun _ _ _ _ _ => pe_op op_add (pv 2) pe_int)))), ?_⟩
    refine ⟨_, rfl, a, rfl, ⟨_, sql ha⟩, fun D hD => lc_gen (R := SegAt) (R' := IntV) (keep := fun _ => true) (f := fun s : Seg => s.1) hD (sql ha) hp (by omega) (fun s h => SegAt.same s h) (fun _ h => h) (fun _ h => h) ?_ ?_⟩
    · rintro x m H1 _ ⟨t, rfl, ht⟩ _ QT QF h1 h2
      exact ⟨t, _, rfl, sqt ht, rfl, _, _, rfl, _, _, rfl, rfl, rfl, iteT (B := QF H1) ⟨_, rfl, h1 rfl _ H1 (Same.refl _) rfl⟩⟩
    · intro H1 s1 hL1
      refine ⟨_, rfl, a, rfl, ⟨_, sql (s1 _ _ ha)⟩, fun E hE => lc_gen (R := SegAt) (R' := IntV) (keep := fun s : Seg => s.2.isSome) (f := fun s : Seg => s.2.getD 0 + 1) hE (sql (s1 _ _ ha)) (paired_imp (fun _ _ z => SegAt.same s1 z) hp) (by omega) (fun s h => SegAt.same s h) (fun _ h => h) (fun _ h => h) ?_ ?_⟩
      · rintro x ⟨m1, m2⟩ H2 _ ⟨t, rfl, ht⟩ _ QT QF h1 h2
        refine ⟨t, _, rfl, sqt ht, rfl, _, _, rfl, _, _, rfl, rfl, rfl, _, rfl, rfl, _, rfl, ?_⟩
        cases m2 with
        | none => exact iteF (h2 rfl H2 (Same.refl _))
        | some q => exact iteT ⟨_, rfl, _, _, rfl, rfl, h1 rfl _ H2 (Same.refl _) rfl⟩
      · intro H2 s2 hL2
        have e1 := s2 _ _ (lst_ints hL1)
        have e2 := lst_ints hL2
        have en : ((ss.filter fun s => s.2.isSome).map fun s => s.2.getD 0 + 1) = endsP ss := by
          clear hp hz k hL1 hL2 e1 e2
          induction ss with
          | nil => rfl
          | cons s ss ih =>
            obtain ⟨m1, m2⟩ := s
            cases m2 with
            | none => simpa [endsP] using ih
            | some q => simpa [endsP] using ih
        rw [en] at e2
        rw [filtT] at e1
        have h1 := endsP_len ss
        refine ⟨D, E, _, _, rfl, rfl, e1, e2, ?_, fun p hp => ?_⟩
        · rw [List.length_map, List.length_map, List.length_map]
          exact sz_le (by omega)
        · have ec : (ss.map fun s => s.1).map V.int ++ (endsP ss).map V.int = (cutsOf ss).map V.int := by
            unfold cutsOf
            rw [List.map_append]
          exact k _ p ((s1.trans s2).trans (same_new hp)) ((s1.trans s2).free hp) (by rw [upd_same, ec])
end
end CB
end
section
set_option maxHeartbeats 4000000
/-! what stands in the heap as data -/
namespace CB
open PySem PySem.Spec PyProof.Rows L2 CBM
theorem lay_map {α : Type} {enc : α → PyData} : ∀ {l : List α}, (∀ x ∈ l, (enc x).canLay0 = true) → PyData.canLayAll0 (l.map enc) = true
  | [], _ => by simp [PyData.canLayAll0]
  | x :: l, h => by
    have h1 := h x (List.mem_cons_self ..)
    have h2 := lay_map (l := l) fun y hy => h y (List.mem_cons_of_mem _ hy)
    show PyData.canLayAll0 (enc x :: l.map enc) = true
    simp [PyData.canLayAll0, h1, h2]
theorem depth_map {α : Type} {enc : α → PyData} {n : Nat} : ∀ {l : List α}, (∀ x ∈ l, (enc x).depth ≤ n) → PyData.depthAll (l.map enc) ≤ n
  | [], _ => by simp [PyData.depthAll]
  | x :: l, h => by
    have h1 := h x (List.mem_cons_self ..)
    have h2 := depth_map (l := l) fun y hy => h y (List.mem_cons_of_mem _ hy)
    show PyData.depthAll (enc x :: l.map enc) ≤ n
    rw [PyData.depthAll]
    omega
theorem sh_list {α : Type} {enc : α → PyData} {l : List α} (h : ∀ x ∈ l, (enc x).canLay0 = true ∧ (enc x).depth ≤ 8) : SeqAt.shaped (.list (l.map enc)) = true := by
  have h1 := lay_map (l := l) fun x hx => (h x hx).1
  have h2 := depth_map (l := l) fun x hx => (h x hx).2
  unfold SeqAt.shaped
  rw [PyData.canLay0, PyData.depth, h1]
  simp
  omega
theorem dpAll_of {α : Type} {K : PySem.W.Frag} {H : Hp} {enc : α → PyData} {vs : List V} {xs : List α} (h : Paired (fun v x => Dp K H v (enc x)) vs xs) : DpAll K H vs (xs.map enc) := by
  induction h with
  | nil => exact .nil
  | cons r _ ih => exact .cons r ih
theorem eqvAll_nil {ds : List PyData} : PyData.eqvAll ds [] = ds.isEmpty := by cases ds <;> rfl
/-- a stretch as data -/
def segD (s : Seg) : PyData := .tuple [.int s.1, oD s.2]
theorem segD_lay (s : Seg) : (segD s).canLay0 = true := by
  obtain ⟨a, o⟩ := s
  cases o <;> simp [segD, oD, PyData.canLay0, PyData.canLayAll0]
theorem segD_depth (s : Seg) : (segD s).depth = 1 := by
  obtain ⟨a, o⟩ := s
  cases o <;> simp [segD, oD, PyData.depth, PyData.depthAll]
theorem segD_sh (s : Seg) : SeqAt.shaped (segD s) = true := by
  unfold SeqAt.shaped
  rw [segD_lay, segD_depth]
  rfl
theorem segD_dp {K : PySem.W.Frag} {H : Hp} {v : V} {s : Seg} (h : SegAt H v s) : Dp K H v (segD s) := by
  obtain ⟨a, rfl, ha⟩ := h
  exact .tup (sqt ha) (.cons (.int _) (.cons (oD_dp _) .nil))
theorem bi (a b : Int) : (a == b) = decide (a = b) := by
  by_cases h : a = b <;> simp [h]
theorem eqv_oD (a b : OI) : PyData.eqv (oD a) (oD b) = decide (a = b) := by
  cases a <;> cases b <;> simp [oD, PyData.eqv, bi]
theorem eqv_segD (a b : Seg) : PyData.eqv (segD a) (segD b) = decide (a = b) := by
  obtain ⟨a1, a2⟩ := a
  obtain ⟨b1, b2⟩ := b
  show PyData.eqv (.tuple [.int a1, oD a2]) (.tuple [.int b1, oD b2]) = _
  simp [PyData.eqv, PyData.eqvAll, eqv_oD, Prod.mk.injEq, Bool.decide_and, bi]
theorem segsD_sh (ss : List Seg) : SeqAt.shaped (.list (ss.map segD)) = true := sh_list fun s _ => ⟨segD_lay s, by rw [segD_depth]; decide⟩
theorem segsD_dp {K : PySem.W.Frag} {H : Hp} {a : Addr} {ss : List Seg} (h : Segs H a ss) : Dp K H (.ref a) (.list (ss.map segD)) := by
  obtain ⟨vs, ha, hp⟩ := h
  exact .lst (sql ha) (dpAll_of (paired_imp (fun _ _ => segD_dp) hp))
theorem nil_dp {K : PySem.W.Frag} {H : Hp} {a : Addr} (h : H a = some (.lst [])) : Dp K H (.ref a) (.list []) := .lst (sql h) .nil
theorem nil_sh : SeqAt.shaped (.list []) = true := by simp [SeqAt.shaped, PyData.canLay0, PyData.canLayAll0, PyData.depth, PyData.depthAll]
theorem eqv_nil {ds : List PyData} : PyData.eqv (.list ds) (.list []) = ds.isEmpty := by
  rw [PyData.eqv, eqvAll_nil]
theorem paired_snoc_inv {α β : Type} {F : α → β → Prop} {xs : List α} {l : List β} {q : β} (h : Paired F xs (l ++ [q])) : ∃ ys v, xs = ys ++ [v] ∧ Paired F ys l ∧ F v q := by
  induction l generalizing xs with
  | nil =>
    cases h with
    | cons r t =>
      cases t
      exact ⟨[], _, rfl, .nil, r⟩
  | cons m l ih =>
    cases h with
    | cons r t =>
      obtain ⟨ys, v, rfl, h1, h2⟩ := ih t
      exact ⟨_ :: ys, v, rfl, .cons r h1, h2⟩
theorem cut_init (ys : List V) (v : V) : cutV (ys ++ [v]) none (some (-1)) = ys := by
  unfold cutV
  have h1 : HT.sIx (ys ++ [v]).length 0 none = 0 := rfl
  have h2 : HT.sIx (ys ++ [v]).length (ys ++ [v]).length (some (-1)) = ys.length := by
    show (if (-1 : Int) < 0 then ((-1 : Int) + ((ys ++ [v]).length : Int)).toNat else min (-1 : Int).toNat (ys ++ [v]).length) = ys.length
    rw [if_pos (by decide), List.length_append, List.length_singleton]
    omega
  rw [h1, h2]
  simp
section
variable {P : Program} {w : World} {K : PySem.W.Frag} {mg : Str → Option Value} {base : Heap} {C : Addr}
abbrev sWith : Stmt := top 30
theorem scWith : FnScope ["runs", "first", "last"] ["runs", "first", "last"] (defScope sWith) := ⟨rfl, rfl, rfl, by decide +kernel, rfl, by decide +kernel, by decide +kernel⟩
def spWith : Sp := fun vs H Q _ => ∃ (a : Addr) (ss : List Seg) (f : Int) (e : OI), vs = [.ref a, .int f, oV e] ∧ Segs H a ss ∧ ss.length ≤ 5000 ∧ ∀ H' p, Same H H' → H p = none → Segs H' p (withRun ss f e) → Q (.ref p) H'
theorem withRun_snoc (l : List Seg) (q : Seg) (f : Int) (e : OI) : withRun (l ++ [q]) f e = if q.2 = some (f - 1) then l ++ [(q.1, e)] else l ++ [q] ++ [(f, e)] := by
  unfold withRun
  rw [List.getLast?_append]
  simp
theorem ok_with {f : Addr} {fd : FuncData} (F : FnD K "with_run" "with_run" sWith [] f fd) (g : mg "with_run" = some (.ref f)) : C8.Cal P w K mg base 1 "with_run" spWith [] := by
  refine calD F g (F.bindsN fun _ _ _ _ _ _ us hl => match us, hl with | [_, _, _], _ => rfl) .nil scWith (fun vs H Q E h => ?_) (fun cdv A outer s H vs Q E hr h => ?_)
  · obtain ⟨a, ss, f, e, rfl, _⟩ := h
    rfl
  · obtain ⟨a, ss, f, e, rfl, hs, hz, k⟩ := h
    refine ⟨_, pss_cons (ps_if (PW.pt (pw_and (pt_cmpR (op_neD hr.units) (pv 0) (pe_lst pa_nil) (nomark _)) (pw_and1 (pt_cmpR op_eq (pe_ix ix_tup (pe_ix ix_list (pv 0) (pe_un un_neg pe_int) (fun _ _ => rfl)) pe_int (fun _ _ => rfl)) (pe_op op_sub (pv 1) pe_int) (nomark _)))))
        (pss_one (ps_ret (pe_op op_cat (pe_slice sl_list (pv 0) po_none (po_some (pe_un un_neg pe_int))) (pe_lst (pa_cons (pe_tup (pa_cons (pe_ix ix_tup (pe_ix ix_list (pv 0) (pe_un un_neg pe_int) (fun _ _ => rfl)) pe_int (fun _ _ => rfl)) (pa_cons (pv 2) pa_nil))) pa_nil))))) pss_nil)
      (pss_one (ps_ret (pe_op op_cat (pv 0) (pe_lst (pa_cons (pe_tup (pa_cons (pv 1) (pa_cons (pv 2) pa_nil))) pa_nil))))), ?_⟩
    refine ⟨_, rfl, Nat.zero_le _, fun p0 hp0 => ?_⟩
    have s0 : Same H (upd H p0 (.lst [])) := same_new hp0
    have hs0 := Segs.same' s0 hs
    obtain ⟨xs, ha, hp⟩ := id hs0
    have hxl : xs.length ≤ 5000 := by rw [Paired.length hp]; exact hz
    have way2 : withRun ss f e = ss ++ [(f, e)] → (tOp (rCat) (tVar 0) (tLst (tCons (tTup (tCons (tVar 1) (tCons (tVar 2) tNil))) tNil))) [some (V.ref a), some (V.int f), some (oV e)] (upd H p0 (.lst [])) Q := fun e1 => by
      refine ⟨_, rfl, _, rfl, _, rfl, (by show 2 ≤ sizeLine; decide), fun t ht => ⟨(by show 1 ≤ sizeLine; decide), fun l hl => ?_⟩⟩
      have s1 := same_new (o := .tup [.int f, oV e]) ht
      have s2 := same_new (o := .lst [.ref t]) hl
      refine ⟨a, l, _, _, rfl, rfl, s2 _ _ (s1 _ _ ha), upd_same, sz_le (by rw [List.length_singleton]; omega), fun p hp3 => ?_⟩
      have s3 := same_new (o := .lst (xs ++ [.ref t])) hp3
      refine k _ p (((s0.trans s1).trans s2).trans s3) (((s0.trans s1).trans s2).free hp3) ?_
      rw [e1]
      exact ⟨_, upd_same, paired_snoc' (paired_imp (fun _ _ z => SegAt.same s3 (SegAt.same s2 (SegAt.same s1 z))) hp) ⟨t, rfl, s3 _ _ (s2 _ _ upd_same)⟩⟩
    refine ⟨.list (ss.map segD), .list [], segsD_dp hs0, nil_dp upd_same, segsD_sh ss, nil_sh, ?_⟩
    rcases List.eq_nil_or_concat ss with rfl | ⟨l, q, rfl⟩
    · exact ⟨false, by rw [eqv_nil]; rfl, iteF (iteF (way2 rfl))⟩
    · rw [List.concat_eq_append] at *
      obtain ⟨ys, v, rfl, hy, t, rfl, ht⟩ := paired_snoc_inv hp
      refine ⟨true, by rw [eqv_nil]; cases l <;> rfl, iteT ?_⟩
      rw [withRun_snoc] at way2 k
      refine ⟨_, rfl, _, rfl, a, _, _, _, rfl, rfl, sql ha, atI_last ys (.ref t), t, _, _, _, rfl, rfl, sqt ht, atI_nat (j := 1) rfl, _, rfl, _, _, rfl, rfl, (by obtain ⟨q1, q2⟩ := q; cases q2 <;> rfl), _, rfl, ?_⟩
      refine ite2 (fun hc => ?_) (fun hc => ?_)
      · have hq : q.2 = some (f - 1) := oV_inj (of_decide_eq_true hc)
        rw [if_pos hq] at k
        refine ⟨_, rfl, _, rfl, _, rfl, a, _, rfl, sql ha, fun p1 hp1 => ?_⟩
        have hcut : cutV (ys ++ [V.ref t]) none (some (-1)) = ys := cut_init ys (.ref t)
        have s1 : Same (upd H p0 (.lst [])) (upd (upd H p0 (.lst [])) p1 (.lst (cutV (ys ++ [V.ref t]) none (some (-1))))) := same_new hp1
        have hp1' : (upd (upd H p0 (.lst [])) p1 (.lst (cutV (ys ++ [V.ref t]) none (some (-1))))) p1 = some (.lst ys) := by rw [upd_same, hcut]
        have hs2 := s0.trans s1
        have ha1 := s1 _ _ ha
        have ht1 := s1 _ _ ht
        have hy1 := paired_imp (fun _ _ z => SegAt.same s1 z) hy
        refine ⟨_, rfl, _, rfl, a, _, _, _, rfl, rfl, sql ha1, atI_last ys (.ref t), t, _, _, _, rfl, rfl, sqt ht1, atI_nat (j := 0) rfl, _, rfl, (by show 2 ≤ sizeLine; decide), fun t2 ht2 => ⟨(by show 1 ≤ sizeLine; decide), fun l2 hl2 => ?_⟩⟩
        have s3 := same_new (o := .tup [.int q.1, oV e]) ht2
        have s4 := same_new (o := .lst [.ref t2]) hl2
        rw [List.length_append, List.length_singleton] at hxl
        refine ⟨p1, l2, ys, _, rfl, rfl, s4 _ _ (s3 _ _ hp1'), upd_same, sz_le (by rw [List.length_singleton]; omega), fun p hp3 => ?_⟩
        have s5 := same_new (o := .lst (ys ++ [.ref t2])) hp3
        exact k _ p (((hs2.trans s3).trans s4).trans s5) (((hs2.trans s3).trans s4).free hp3) ⟨_, upd_same, paired_snoc' (paired_imp (fun _ _ z => SegAt.same s5 (SegAt.same s4 (SegAt.same s3 z))) hy1) ⟨t2, rfl, s5 _ _ (s4 _ _ upd_same)⟩⟩
      · have hq : ¬ q.2 = some (f - 1) := fun z => hc (decide_eq_true (by rw [z]; rfl))
        exact way2 (if_neg hq)
end
end CB
end
section
set_option maxHeartbeats 4000000
/-! runs, columns, bands -/
namespace CB
open PySem PySem.Spec PyProof.Rows L2 CBM
def BlV (_ : Hp) (v : V) (b : Bool) : Prop := v = .bl b
theorem lst_bls {H : Hp} {D : Addr} {ns : List Bool} (h : LstOf BlV H D ns) : H D = some (.lst (ns.map V.bl)) := by
  obtain ⟨vs, h1, h2⟩ := h
  have e : vs = ns.map V.bl := by
    clear h1
    induction h2 with
    | nil => rfl
    | cons r _ ih => rw [r, ih]; rfl
  rw [h1, e]
/-- a way of keeping: asked of two bools -/
def spKeep (k : Bool → Bool → Bool) : Sp := fun vs H Q _ => ∃ a b : Bool, vs = [.bl a, .bl b] ∧ Q (.bl (k a b)) H
section
variable {P : Program} {w : World} {K : PySem.W.Frag} {mg : Str → Option Value} {base : Heap} {C : Addr}
/-- what the three ways stand at -/
abbrev Keeps (P : Program) (w : World) (K : PySem.W.Frag) (mg : Str → Option Value) (base : Heap) (S : Addr → Option Sp) : Prop := ∀ f sp, S f = some sp → Held P w K mg base 1 f sp
abbrev sRuns : Stmt := top 31
abbrev NRuns : List Str := ["one", "other", "keeps", "found", "first", "last", "in_one", "in_other", "run"]
theorem scRuns : FnScope NRuns ["one", "other", "keeps"] (defScope sRuns) := ⟨rfl, rfl, rfl, by decide +kernel, rfl, by decide +kernel, by decide +kernel⟩
def spRuns (S : Addr → Option Sp) : Sp := fun vs H Q _ => ∃ (a b f : Addr) (one other : List Seg) (k : Bool → Bool → Bool), vs = [.ref a, .ref b, .ref f] ∧ Segs H a one ∧ Segs H b other ∧ S f = some (spKeep k) ∧ one.length ≤ 600 ∧ other.length ≤ 600 ∧ ∀ H' p, Same H H' → H p = none → Segs H' p (runsBy one other k) → Q (.ref p) H'
theorem withRun_len (l : List Seg) (f : Int) (e : OI) : (withRun l f e).length ≤ l.length + 1 := by
  rcases List.eq_nil_or_concat l with rfl | ⟨l, q, rfl⟩
  · simp [withRun]
  · rw [List.concat_eq_append, withRun_snoc]
    split <;> simp
theorem runsFold_len (one other : List Seg) (k : Bool → Bool → Bool) : ∀ (ss : List Seg) (acc : List Seg), (ss.foldl (runsStep one other k) acc).length ≤ acc.length + ss.length
  | [], acc => Nat.le_refl _
  | s :: ss, acc => by
    have h1 := runsFold_len one other k ss (runsStep one other k acc s)
    have h2 : (runsStep one other k acc s).length ≤ acc.length + 1 := by
      unfold runsStep
      split
      · exact withRun_len _ _ _
      · omega
    show (ss.foldl (runsStep one other k) (runsStep one other k acc s)).length ≤ acc.length + (ss.length + 1)
    omega
theorem foldl_take {α β : Type} {f : α → β → α} {z : α} {l : List β} {i : Nat} {x : β} (h : l[i]? = some x) : (l.take (i + 1)).foldl f z = f ((l.take i).foldl f z) x := by
  rw [take_succ' h, List.foldl_append]
  rfl
theorem ok_runs {f : Addr} {fd : FuncData} {S : Addr → Option Sp} (F : FnD K "runs_by" "runs_by" sRuns [] f fd) (g : mg "runs_by" = some (.ref f)) (B : Bi mg) (hS : Keeps P w K mg base S)
    (cAt : C8.Cal P w K mg base 1 "is_at" spAt []) (cStr : C8.Cal P w K mg base 2 "stretches" spStr []) (cCuts : C8.Cal P w K mg base 1 "cuts_of" spCuts []) (cWith : C8.Cal P w K mg base 1 "with_run" spWith []) : C8.Cal P w K mg base 3 "runs_by" (spRuns S) [] := by
  refine calD F g (F.bindsN fun _ _ _ _ _ _ us hl => match us, hl with | [_, _, _], _ => rfl) .nil scRuns (fun vs H Q E h => ?_) (fun cdv A outer s H vs Q E hr h => ?_)
  · obtain ⟨a, b, fk, one, other, k, rfl, _⟩ := h
    rfl
  · obtain ⟨a, b, fk, one, other, kp, rfl, ⟨xa, ha, pa⟩, ⟨xb, hb, pb⟩, hf, za, zb, k⟩ := h
    have la : xa.length = one.length := Paired.length pa
    have lb : xb.length = other.length := Paired.length pb
    refine ⟨_, pss_cons (ps_set (i := 3) scRuns.nd rfl (Or.inl rfl) (pe_lst pa_nil))
      (pss_cons (ps_for PassesOwn.never rfl (pi_list (C8.pe_c cStr hr (by decide) rfl (pa_cons (C8.pe_c cCuts hr (by decide) rfl (pa_cons (pe_op op_cat (pv 0) (pv 1)) pa_nil)) pa_nil)))
        (pg_tup rfl (pgs_cons (pg_name (i := 4) scRuns.nd rfl (.inr rfl)) (pgs_cons (pg_name (i := 5) scRuns.nd rfl (.inl rfl)) pgs_nil)))
        (pss_cons (ps_set (i := 6) scRuns.nd rfl (Or.inl rfl) (pe_callB (cr_any rfl) rfl B.any (by decide +kernel) (pa_cons (pe_lc (own := [("run", 8)]) (g := gName 8) (tt := tYes) rfl scRuns.nd (pi_list (pv 0)) (blkOk_by (N := NRuns) (sc := defScope sRuns) (by decide +kernel))
          (fun _ _ _ _ _ => pg_name (i := 8) scRuns.nd rfl (Or.inl rfl)) (fun _ _ _ _ _ => pts_nil) (fun _ _ _ _ _ => C8.pe_c cAt hr (by decide) rfl (pa_cons (pe_ix (ixT K) (pv 8) pe_int (fun _ _ => rfl)) (pa_cons (pe_ix (ixT K) (pv 8) pe_int (fun _ _ => rfl)) (pa_cons (pv 4) pa_nil))))) pa_nil)))
        (pss_cons (ps_set (i := 7) scRuns.nd rfl (Or.inl rfl) (pe_callB (cr_any rfl) rfl B.any (by decide +kernel) (pa_cons (pe_lc (own := [("run", 8)]) (g := gName 8) (tt := tYes) rfl scRuns.nd (pi_list (pv 1)) (blkOk_by (N := NRuns) (sc := defScope sRuns) (by decide +kernel))
          (fun _ _ _ _ _ => pg_name (i := 8) scRuns.nd rfl (Or.inl rfl)) (fun _ _ _ _ _ => pts_nil) (fun _ _ _ _ _ => C8.pe_c cAt hr (by decide) rfl (pa_cons (pe_ix (ixT K) (pv 8) pe_int (fun _ _ => rfl)) (pa_cons (pe_ix (ixT K) (pv 8) pe_int (fun _ _ => rfl)) (pa_cons (pv 4) pa_nil))))) pa_nil)))
        (pss_one (ps_if (pt_val (pe_callA (i := 2) hS (hr.mono (by decide)) rfl (.inl rfl) (pa_cons (pv 6) (pa_cons (pv 7) pa_nil)))) (pss_one (ps_set (i := 3) scRuns.nd rfl (Or.inl rfl) (C8.pe_c cWith hr (by decide) rfl (pa_cons (pv 3) (pa_cons (pv 4) (pa_cons (pv 5) pa_nil)))))) pss_nil)))))
      (pss_one (ps_ret (pv 3)))), ?_⟩
    refine ⟨Nat.zero_le _, fun D hD => ?_⟩
    have s0 : Same H (upd H D (.lst [])) := same_new hD
    refine ⟨_, rfl, _, rfl, a, b, xa, xb, rfl, rfl, s0 _ _ ha, s0 _ _ hb, sz_le (by omega), fun p0 hp0 => ?_⟩
    have s1 := same_new (o := .lst (xa ++ xb)) hp0
    have s01 := s0.trans s1
    have hab : Segs (upd (upd H D (.lst [])) p0 (.lst (xa ++ xb))) p0 (one ++ other) := ⟨_, upd_same, paired_imp (fun _ _ z => SegAt.same s01 z) (paired_app pa pb)⟩
    have hD1 : (upd (upd H D (.lst [])) p0 (.lst (xa ++ xb))) D = some (.lst []) := s1 _ _ upd_same
    generalize upd (upd H D (.lst [])) p0 (.lst (xa ++ xb)) = H1 at s01 hab hD1
    clear s0 s1
    refine ⟨p0, _, rfl, hab, by rw [List.length_append]; omega, fun H2 p2 s2 hp2 hc => ⟨p2, _, rfl, hc, ?_, fun H3 p3 s3 hp3 hst => ?_⟩⟩
    · have := cutsOf_len (one ++ other)
      rw [List.length_append] at this
      omega
    have s03 := s01.trans (s2.trans s3)
    have hD3 := (s2.trans s3) _ _ hD1
    clear hab hc s01 hD1
    obtain ⟨xq, hq, pq⟩ := hst
    have zst : (stretches (cutsOf (one ++ other))).length ≤ 2400 := by
      have h1 := stretches_len (cutsOf (one ++ other))
      have h2 := cutsOf_len (one ++ other)
      rw [List.length_append] at h2
      omega
    have k' : ∀ H' p, Same H H' → H p = none → Segs H' p ((stretches (cutsOf (one ++ other))).foldl (runsStep one other kp) []) → Q (.ref p) H' := k
    clear k
    generalize stretches (cutsOf (one ++ other)) = sts at pq zst k'
    refine ⟨p3, rfl, ⟨_, sql hq⟩, for_listG (H0 := H3) (R := SegAt) (sql hq) pq (fun s h => SegAt.same s h) (fun i σ H4 => ∃ fd f l i1 i2, σ = [some (.ref a), some (.ref b), some (.ref fk), some (.ref fd), f, l, i1, i2, none] ∧ Same H3 H4 ∧ H fd = none ∧ Segs H4 fd ((sts.take i).foldl (runsStep one other kp) []))
      ⟨D, _, _, _, _, rfl, Same.refl _, hD, by rw [List.take_zero]; exact ⟨[], hD3, .nil⟩⟩ (fun i σ H4 ⟨_, _, _, _, _, _, s4, _⟩ => s4) ?_ ?_⟩
    · rintro i x ⟨m1, m2⟩ σ H4 hi hm ⟨t, rfl, ht⟩ ⟨fd, f', l', i1, i2, rfl, s4, hfd, hacc⟩
      refine ⟨t, _, rfl, sqt ht, rfl, _, _, rfl, _, _, rfl, rfl, ?_⟩
      have sH4 := s03.trans s4
      -- in_one
      have turn : ∀ (src : List Seg) (H5 : Hp) (sl : Nat) (σ5 : L2.St), (wipe σ5 [8])[4]? = some (some (V.int m1)) → (wipe σ5 [8]).length = 9 → LcTurn SegAt BlV (fun _ => true) (fun s : Seg => inS s.1 s.2 m1) src (gName 8) tYes (tCall spAt [] C8.E0 (tCons (tOp (rIxT K) (tVar 8) (tC (.int 0))) (tCons (tOp (rIxT K) (tVar 8) (tC (.int 1))) (tCons (tVar 4) tNil)))) [8] σ5 H5 := by
        rintro src H5 sl σ5 h4 hl x ⟨q1, q2⟩ H6 _ ⟨u, rfl, hu⟩ _ QT QF h1 h2
        have e8 : ((wipe σ5 [8]).set 8 (some (V.ref u)))[8]? = some (some (V.ref u)) := by
          rw [List.getElem?_set]
          simp [hl]
        have e4 : ((wipe σ5 [8]).set 8 (some (V.ref u)))[4]? = some (some (V.int m1)) := by
          rw [List.getElem?_set]
          simpa using h4
        refine ⟨?_, iteT (B := QF H6) ⟨_, e8, u, _, _, _, rfl, rfl, sqt hu, atI_nat (j := 0) rfl, _, e8, u, _, _, _, rfl, rfl, sqt hu, atI_nat (j := 1) rfl, _, e4, q1, q2, m1, rfl, h1 rfl _ H6 (Same.refl _) rfl⟩⟩
        show ((σ5.set 8 none).set 8 _).set 8 none = σ5.set 8 none
        rw [List.set_set, List.set_set]
      have any_eq : ∀ src : List Seg, (src.map fun s : Seg => inS s.1 s.2 m1).any id = hasS src m1 := fun src => by
        unfold hasS
        rw [List.any_map]
        rfl
      refine ⟨_, rfl, a, rfl, ⟨_, sql (sH4 _ _ ha)⟩, fun D1 hD1 => lc_gen (R := SegAt) (R' := BlV) (keep := fun _ => true) (f := fun s : Seg => inS s.1 s.2 m1) hD1 (sql (sH4 _ _ ha)) (paired_imp (fun _ _ z => SegAt.same sH4 z) pa) (by omega) (fun s h => SegAt.same s h) (fun _ h => h) (fun _ h => h) (turn one H4 0 _ rfl rfl) ?_⟩
      intro H5 s5 hL1
      rw [filtT] at hL1
      refine ⟨D1, _, rfl, sql (lst_bls hL1), ?_⟩
      have sH5 := sH4.trans s5
      refine ⟨_, rfl, b, rfl, ⟨_, sql (sH5 _ _ hb)⟩, fun D2 hD2 => lc_gen (R := SegAt) (R' := BlV) (keep := fun _ => true) (f := fun s : Seg => inS s.1 s.2 m1) hD2 (sql (sH5 _ _ hb)) (paired_imp (fun _ _ z => SegAt.same sH5 z) pb) (by omega) (fun s h => SegAt.same s h) (fun _ h => h) (fun _ h => h) (turn other H5 0 _ rfl rfl) ?_⟩
      intro H6 s6 hL2
      rw [filtT] at hL2
      refine ⟨D2, _, rfl, sql (lst_bls hL2), ?_⟩
      rw [any_eq, any_eq]
      have s46 := s5.trans s6
      have hacc6 := Segs.same' s46 hacc
      have zacc : ((sts.take i).foldl (runsStep one other kp) []).length ≤ 5000 := by
        have h1 := runsFold_len one other kp (sts.take i) []
        have h2 : (sts.take i).length ≤ sts.length := List.length_take_le' i sts
        rw [List.length_nil] at h1
        omega
      have fe : (sts.take (i + 1)).foldl (runsStep one other kp) [] = if kp (hasS one m1) (hasS other m1) = true then withRun ((sts.take i).foldl (runsStep one other kp) []) m1 m2 else (sts.take i).foldl (runsStep one other kp) [] := foldl_take (f := runsStep one other kp) (z := []) hm
      refine ⟨fk, _, rfl, hf, _, rfl, _, rfl, hasS one m1, hasS other m1, rfl, _, rfl, ?_⟩
      refine ite2 (fun hc => ?_) (fun hc => ?_)
      · rw [if_pos hc] at fe
        refine ⟨_, rfl, _, rfl, _, rfl, fd, _, m1, m2, rfl, hacc6, zacc, fun H7 p7 s7 hp7 hw => ?_⟩
        refine ⟨p7, _, _, _, _, rfl, (s4.trans s46).trans s7, ?_, ?_⟩
        · exact (sH4.trans s46).free hp7
        · rw [fe]
          exact hw
      · rw [if_neg hc] at fe
        refine ⟨fd, _, _, _, _, rfl, s4.trans s46, hfd, ?_⟩
        rw [fe]
        exact hacc6
    · rintro σ H4 ⟨fd, f', l', i1, i2, rfl, s4, hfd, hacc⟩
      rw [List.take_of_length_le (Nat.le_refl _)] at hacc
      exact ⟨_, rfl, k' H4 fd (s03.trans s4) hfd hacc⟩
abbrev sCols : Stmt := top 32
theorem scCols : FnScope ["blocks", "row", "block"] ["blocks", "row"] (defScope sCols) := ⟨rfl, rfl, rfl, by decide +kernel, rfl, by decide +kernel, by decide +kernel⟩
def spCols (C : Addr) : Sp := fun vs H Q _ => ∃ (a : Addr) (n : Int) (bs : List Blk), vs = [.ref a, .int n] ∧ Blks C H a bs ∧ bs.length ≤ 600 ∧ ∀ H' p, Same H H' → H p = none → Segs H' p (columnsAt bs n) → Q (.ref p) H'
theorem ok_cols {f : Addr} {fd : FuncData} (F : FnD K "columns_at" "columns_at" sCols [] f fd) (g : mg "columns_at" = some (.ref f)) (T : BK K mg C) (cAt : C8.Cal P w K mg base 1 "is_at" spAt []) : C8.Cal P w K mg base 2 "columns_at" (spCols C) [] := by
  refine calD F g (F.bindsN fun _ _ _ _ _ _ us hl => match us, hl with | [_, _], _ => rfl) .nil scCols (fun vs H Q E h => ?_) (fun cdv A outer s H vs Q E hr h => ?_)
  · obtain ⟨a, n, bs, rfl, _⟩ := h
    rfl
  · obtain ⟨a, n, bs, rfl, ⟨xs, ha, hp⟩, hz, k⟩ := h
    refine ⟨_, pss_one (ps_ret (pe_lc (own := [("block", 2)]) (g := gName 2) rfl scCols.nd (pi_list (pv 0)) (blkOk_by (N := ["blocks", "row", "block"]) (sc := defScope sCols) (by decide +kernel))
      (fun _ _ _ _ _ => pg_name (i := 2) scCols.nd rfl (Or.inl rfl)) (fun _ _ _ _ _ => pts_one (pt_val (C8.pe_c cAt hr (by decide) rfl (pa_cons (pe_fldK K (pv 2)) (pa_cons (pe_fldK K (pv 2)) (pa_cons (pv 1) pa_nil))))))
      (fun _ _ _ _ _ => pe_tup (pa_cons (pe_fldK K (pv 2)) (pa_cons (pe_fldK K (pv 2)) pa_nil))))), ?_⟩
    refine ⟨_, rfl, a, rfl, ⟨_, sql ha⟩, fun D hD => lc_gen (R := BlkAt C) (R' := SegAt) (keep := fun b : Blk => inS b.t b.b n) (f := fun b : Blk => (b.l, b.r)) hD (sql ha) hp (by omega) (fun s h => BlkAt.same s h) (fun s h => SegAt.same s h) seg_del ?_ ?_⟩
    · rintro x m H1 _ ⟨u, dx, rfl, hu⟩ _ QT QF h1 h2
      refine ⟨rfl, _, rfl, u, C, dx, _, _, rfl, hu, T.cl, T.nt, bF_top, _, rfl, u, C, dx, _, _, rfl, hu, T.cl, T.nb, bF_bottom, _, rfl, m.t, m.b, n, rfl, _, rfl, ?_⟩
      refine ite2 (fun hc => ?_) (fun hc => ?_)
      · refine ⟨_, rfl, u, C, dx, _, _, rfl, hu, T.cl, T.nl, bF_left, _, rfl, u, C, dx, _, _, rfl, hu, T.cl, T.nr, bF_right, (by show 2 ≤ sizeLine; decide), fun p hp2 => h1 hc _ _ (same_new hp2) ⟨p, rfl, upd_same⟩⟩
      · exact h2 (Bool.eq_false_iff.mpr hc) H1 (Same.refl _)
    · intro H1 s1 hL
      exact k H1 D s1 hD hL
theorem ne_of_none' {H : Hp} {a b : Addr} {o : HO} (h : H a = none) (h' : H b = some o) : a ≠ b := by
  intro e
  rw [e, h'] at h
  cases h
theorem cols_len (bs : List Blk) (n : Int) : (columnsAt bs n).length ≤ bs.length := by
  unfold columnsAt
  rw [List.length_map]
  exact List.length_filter_le _ _
abbrev sBands : Stmt := top 33
abbrev NBands : List Str := ["one", "other", "keeps", "found", "first", "last", "runs", "block"]
theorem scBands : FnScope NBands ["one", "other", "keeps"] (defScope sBands) := ⟨rfl, rfl, rfl, by decide +kernel, rfl, by decide +kernel, by decide +kernel⟩
/-- a band; its list of runs is not at D -/
def BandN (D : Addr) (H : Hp) (v : V) (g : Band) : Prop := ∃ a q, v = .ref a ∧ H a = some (.tup [.int g.f, oV g.e, .ref q]) ∧ Segs H q g.rs ∧ q ≠ D
theorem BandN.same {D : Addr} {H H' : Hp} {v : V} {g : Band} (e : Same H H') (h : BandN D H v g) : BandN D H' v g := let ⟨a, q, h1, h2, h3, h4⟩ := h; ⟨a, q, h1, e _ _ h2, Segs.same' e h3, h4⟩
theorem band_del {H : Hp} {D : Addr} {acc : List V} {v : V} {g : Band} (hD : H D = some (.lst acc)) (h : BandN D H v g) : BandN D (delH' H D) v g := by
  obtain ⟨a, q, h1, h2, ⟨vs, h3, h4⟩, h5⟩ := h
  exact ⟨a, q, h1, by rw [del_ne (ne_of h2 hD fun z => nomatch z)]; exact h2, ⟨vs, by rw [del_ne h5]; exact h3, paired_imp (fun _ _ z => seg_del hD z) h4⟩, h5⟩
def BandAt (H : Hp) (v : V) (g : Band) : Prop := ∃ a q, v = .ref a ∧ H a = some (.tup [.int g.f, oV g.e, .ref q]) ∧ Segs H q g.rs
theorem BandAt.same {H H' : Hp} {v : V} {g : Band} (e : Same H H') (h : BandAt H v g) : BandAt H' v g := let ⟨a, q, h1, h2, h3⟩ := h; ⟨a, q, h1, e _ _ h2, Segs.same' e h3⟩
abbrev Bands (H : Hp) (a : Addr) (gs : List Band) : Prop := LstOf BandAt H a gs
def spBands (C : Addr) (S : Addr → Option Sp) : Sp := fun vs H Q _ => ∃ (a b f : Addr) (one other : List Blk) (k : Bool → Bool → Bool), vs = [.ref a, .ref b, .ref f] ∧ Blks C H a one ∧ Blks C H b other ∧ S f = some (spKeep k) ∧ one.length ≤ 600 ∧ other.length ≤ 600 ∧ ∀ H' p, Same H H' → H p = none → Bands H' p (bandsBy one other k) → Q (.ref p) H'
theorem fm_take {α β : Type} {f : α → Option β} {l : List α} {i : Nat} {x : α} (h : l[i]? = some x) : (l.take (i + 1)).filterMap f = (l.take i).filterMap f ++ (f x).toList := by
  rw [take_succ' h, List.filterMap_append]
  cases e : f x <;> simp [e]
theorem ok_bands {f : Addr} {fd : FuncData} {S : Addr → Option Sp} (F : FnD K "bands_by" "bands_by" sBands [] f fd) (g : mg "bands_by" = some (.ref f)) (T : BK K mg C)
    (cStr : C8.Cal P w K mg base 2 "stretches" spStr []) (cCuts : C8.Cal P w K mg base 1 "cuts_of" spCuts []) (cRuns : C8.Cal P w K mg base 3 "runs_by" (spRuns S) []) (cCols : C8.Cal P w K mg base 2 "columns_at" (spCols C) []) : C8.Cal P w K mg base 4 "bands_by" (spBands C S) [] := by
  refine calD F g (F.bindsN fun _ _ _ _ _ _ us hl => match us, hl with | [_, _, _], _ => rfl) .nil scBands (fun vs H Q E h => ?_) (fun cdv A outer s H vs Q E hr h => ?_)
  · obtain ⟨a, b, fk, one, other, k, rfl, _⟩ := h
    rfl
  · obtain ⟨a, b, fk, one, other, kp, rfl, ⟨xa, ha, pa⟩, ⟨xb, hb, pb⟩, hf, za, zb, k⟩ := h
    have la : xa.length = one.length := Paired.length pa
    have lb : xb.length = other.length := Paired.length pb
    refine ⟨_, pss_cons (ps_set (i := 3) scBands.nd rfl (Or.inl rfl) (pe_lst pa_nil))
      (pss_cons (ps_for PassesOwn.never rfl (pi_list (C8.pe_c cStr hr (by decide) rfl (pa_cons (C8.pe_c cCuts hr (by decide) rfl (pa_cons
          (pe_lc (own := [("block", 7)]) (g := gName 7) (tt := tYes) rfl scBands.nd (pi_list (pe_op op_cat (pv 0) (pv 1))) (blkOk_by (N := NBands) (sc := defScope sBands) (by decide +kernel))
            (fun _ _ _ _ _ => pg_name (i := 7) scBands.nd rfl (Or.inl rfl)) (fun _ _ _ _ _ => pts_nil) (fun _ _ _ _ _ => pe_tup (pa_cons (pe_fldK K (pv 7)) (pa_cons (pe_fldK K (pv 7)) pa_nil)))) pa_nil)) pa_nil)))
        (pg_tup rfl (pgs_cons (pg_name (i := 4) scBands.nd rfl (.inl rfl)) (pgs_cons (pg_name (i := 5) scBands.nd rfl (.inl rfl)) pgs_nil)))
        (pss_cons (ps_set (i := 6) scBands.nd rfl (Or.inl rfl) (C8.pe_c cRuns hr (by decide) rfl (pa_cons (C8.pe_c cCols hr (by decide) rfl (pa_cons (pv 0) (pa_cons (pv 4) pa_nil))) (pa_cons (C8.pe_c cCols hr (by decide) rfl (pa_cons (pv 1) (pa_cons (pv 4) pa_nil))) (pa_cons (pv 2) pa_nil)))))
        (pss_one (ps_if (pt_cmpR (op_neD hr.units) (pv 6) (pe_lst pa_nil) (nomark _))
          (pss_one (ps_expr (pe_bm PySem.F.plainAttrs_list PySem.F.slot_list_append PySem.F.type_list_append mt_append (pv 3) (pa_cons (pe_tup (pa_cons (pv 4) (pa_cons (pv 5) (pa_cons (pv 6) pa_nil)))) pa_nil)))) pss_nil))))
      (pss_one (ps_ret (pv 3)))), ?_⟩
    refine ⟨Nat.zero_le _, fun D hD => ?_⟩
    have s0 : Same H (upd H D (.lst [])) := same_new hD
    refine ⟨_, rfl, _, rfl, a, b, xa, xb, rfl, rfl, s0 _ _ ha, s0 _ _ hb, sz_le (by omega), fun p0 hp0 => ?_⟩
    have s1 := same_new (o := .lst (xa ++ xb)) hp0
    have s01 := s0.trans s1
    have hxab : (upd (upd H D (.lst [])) p0 (.lst (xa ++ xb))) p0 = some (.lst (xa ++ xb)) := upd_same
    have hab : Paired (BlkAt C (upd (upd H D (.lst [])) p0 (.lst (xa ++ xb)))) (xa ++ xb) (one ++ other) := paired_imp (fun _ _ z => BlkAt.same s01 z) (paired_app pa pb)
    have hD1 : (upd (upd H D (.lst [])) p0 (.lst (xa ++ xb))) D = some (.lst []) := s1 _ _ upd_same
    generalize upd (upd H D (.lst [])) p0 (.lst (xa ++ xb)) = H1 at s01 hab hD1 hxab
    clear s0 s1
    have zab : (one ++ other).length ≤ 1200 := by rw [List.length_append]; omega
    refine ⟨p0, rfl, ⟨_, sql hxab⟩, fun D0 hD0 => lc_gen (R := BlkAt C) (R' := SegAt) (keep := fun _ => true) (f := fun b : Blk => (b.t, b.b)) hD0 (sql hxab) hab (by omega) (fun s h => BlkAt.same s h) (fun s h => SegAt.same s h) seg_del ?_ ?_⟩
    · rintro x m H2 _ ⟨u, dx, rfl, hu⟩ _ QT QF h1 h2
      exact ⟨rfl, iteT (B := QF H2) ⟨_, rfl, u, C, dx, _, _, rfl, hu, T.cl, T.nt, bF_top, _, rfl, u, C, dx, _, _, rfl, hu, T.cl, T.nb, bF_bottom, (by show 2 ≤ sizeLine; decide), fun p hp2 => h1 rfl _ _ (same_new hp2) ⟨p, rfl, upd_same⟩⟩⟩
    intro H1b s1b hLr
    rw [filtT] at hLr
    have hro : ((one ++ other).map fun b : Blk => (b.t, b.b)) = rowsOf (one ++ other) := rfl
    rw [hro] at hLr
    have zro : (rowsOf (one ++ other)).length ≤ 1200 := by
      unfold rowsOf
      rw [List.length_map]
      exact zab
    have k' : ∀ H' p, Same H H' → H p = none → Bands H' p ((stretches (cutsOf (rowsOf (one ++ other)))).filterMap (bandOf one other kp)) → Q (.ref p) H' := k
    clear k
    generalize rowsOf (one ++ other) = rws at hLr zro k'
    refine ⟨D0, _, rfl, hLr, by omega, fun H2 p2 s2 hp2 hc => ⟨p2, _, rfl, hc, ?_, fun H3 p3 s3 hp3 hst => ?_⟩⟩
    · have := cutsOf_len rws
      omega
    have s03 := (s01.trans s1b).trans (s2.trans s3)
    have hD2 := s2 _ _ (s1b _ _ hD1)
    have hD3 := s3 _ _ hD2
    clear hab hc s01 hD1 hLr s1b hxab
    obtain ⟨xq, hq, pq⟩ := hst
    have zst : (stretches (cutsOf rws)).length ≤ 2400 := by
      have h1 := stretches_len (cutsOf rws)
      have h2 := cutsOf_len rws
      omega
    generalize stretches (cutsOf rws) = sts at pq zst k'
    have np : p3 ≠ D := ne_of_none' hp3 hD2
    have sH0 := del_same s03 hD
    have hq0 : (delH' H3 D) p3 = some (.lst xq) := by rw [del_ne np]; exact hq
    have pq0 := paired_imp (fun _ _ z => seg_del hD3 z) pq
    refine ⟨p3, rfl, ⟨_, sql hq⟩, for_listG (H0 := delH' H3 D) (R := SegAt) (sql hq0) pq0 (fun s h => SegAt.same s h) (fun i σ H4 => ∃ f l r, σ = [some (.ref a), some (.ref b), some (.ref fk), some (.ref D), f, l, r, none] ∧ Same (delH' H3 D) H4 ∧ LstOf (BandN D) H4 D ((sts.take i).filterMap (bandOf one other kp)))
      ⟨_, _, _, rfl, del_sub, by rw [List.take_zero]; exact ⟨[], hD3, .nil⟩⟩ (fun i σ H4 ⟨_, _, _, _, s4, _⟩ => s4) ?_ ?_⟩
    · rintro i x ⟨m1, m2⟩ σ H4 hi hm ⟨t, rfl, ht⟩ ⟨f', l', r', rfl, s4, hacc⟩
      refine ⟨t, _, rfl, sqt ht, rfl, _, _, rfl, _, _, rfl, rfl, ?_⟩
      have sH4 := sH0.trans s4
      refine ⟨_, rfl, _, rfl, a, m1, one, rfl, ⟨xa, sH4 _ _ ha, paired_imp (fun _ _ z => BlkAt.same sH4 z) pa⟩, za, fun H5 p5 s5 hp5 hc1 => ?_⟩
      have sH5 := sH4.trans s5
      refine ⟨_, rfl, _, rfl, b, m1, other, rfl, ⟨xb, sH5 _ _ hb, paired_imp (fun _ _ z => BlkAt.same sH5 z) pb⟩, zb, fun H6 p6 s6 hp6 hc2 => ?_⟩
      refine ⟨_, rfl, p5, p6, fk, _, _, kp, rfl, Segs.same' s6 hc1, hc2, hf, ?_, ?_, fun H7 p7 s7 hp7 hrs => ?_⟩
      · exact Nat.le_trans (cols_len one m1) za
      · exact Nat.le_trans (cols_len other m1) zb
      have s47 := s5.trans (s6.trans s7)
      obtain ⟨acc, hac, pac⟩ := hacc
      have np7 : p7 ≠ D := fun z => by
        rw [z, (s5.trans s6) _ _ hac] at hp7
        cases hp7
      have hac7 := s47 _ _ hac
      have hacc7 : LstOf (BandN D) H7 D ((sts.take i).filterMap (bandOf one other kp)) := ⟨acc, hac7, paired_imp (fun _ _ z => BandN.same s47 z) pac⟩
      have zacc : acc.length < sizeLine := by
        have h1 := Paired.length pac
        have h2 := List.length_filterMap_le (bandOf one other kp) (sts.take i)
        have h3 : (sts.take i).length ≤ sts.length := List.length_take_le' i sts
        exact sz_lt (by omega)
      have fe := fm_take (f := bandOf one other kp) hm
      have fb : bandOf one other kp (m1, m2) = if runsBy (columnsAt one m1) (columnsAt other m1) kp = [] then none else some ⟨m1, m2, runsBy (columnsAt one m1) (columnsAt other m1) kp⟩ := rfl
      rw [fb] at fe
      clear fb
      generalize runsBy (columnsAt one m1) (columnsAt other m1) kp = rs at hrs fe
      refine ⟨_, rfl, Nat.zero_le _, fun p8 hp8 => ?_⟩
      have s8 : Same H7 (upd H7 p8 (.lst [])) := same_new hp8
      have hrs8 := Segs.same' s8 hrs
      have s48 := s4.trans (s47.trans s8)
      refine ⟨.list (rs.map segD), .list [], segsD_dp hrs8, nil_dp upd_same, segsD_sh rs, nil_sh, !rs.isEmpty, by rw [eqv_nil]; cases rs <;> rfl, ?_⟩
      have hacc8 := lst_mono (R := BandN D) (fun s h => BandN.same s h) s8 hacc7
      have hac8 := s8 _ _ hac7
      generalize upd H7 p8 (.lst []) = H8 at hrs8 s48 hacc8 hac8
      cases rs with
      | nil =>
        rw [if_pos rfl, Option.toList_none, List.append_nil] at fe
        exact iteF ⟨_, _, _, rfl, s48, by rw [fe]; exact hacc8⟩
      | cons r1 rr =>
        rw [if_neg (by simp), Option.toList_some] at fe
        refine iteT ?_
        refine ⟨_, rfl, Or.inl ⟨rfl, _, sql hac8⟩, _, rfl, _, rfl, _, rfl, (by show 3 ≤ sizeLine; decide), fun t2 ht2 => ?_⟩
        have s9 := same_new (o := .tup [.int m1, oV m2, .ref p7]) ht2
        have hacc9 := lst_mono (R := BandN D) (fun s h => BandN.same s h) s9 hacc8
        obtain ⟨acc', ha1, ha2, ha3⟩ := lst_snoc (R := BandN D) (y := .ref t2) (m := (⟨m1, m2, r1 :: rr⟩ : Band)) (fun s h => BandN.same s h) band_del hacc9 ⟨t2, p7, rfl, upd_same, Segs.same' s9 hrs8, np7⟩
        have e9 := s9 _ _ hac8
        rw [e9] at ha1
        cases ha1
        exact ⟨D, _, _, rfl, rfl, e9, zacc, _, _, _, rfl, sm_mut (s48.trans s9) del_self, by rw [fe]; exact ha3⟩
    · rintro σ H4 ⟨f', l', r', rfl, s4, vs, h1, h2⟩
      rw [List.take_of_length_le (Nat.le_refl _)] at h2
      exact ⟨_, rfl, k' H4 D (sH0.trans s4) hD ⟨vs, h1, paired_imp (fun _ _ ⟨a, q, z1, z2, z3, _⟩ => ⟨a, q, z1, z2, z3⟩) h2⟩⟩
end
end CB
end
section
set_option maxHeartbeats 4000000
/-! first cells, ways of keeping, the form of bands -/
namespace CB
open PySem PySem.Spec PyProof.Rows L2 CBM
section
variable {P : Program} {w : World} {K : PySem.W.Frag} {mg : Str → Option Value} {base : Heap} {C : Addr}
abbrev sFirst : Stmt := top 35
theorem scFirst : FnScope ["block"] ["block"] (defScope sFirst) := ⟨rfl, rfl, rfl, by decide +kernel, rfl, by decide +kernel, by decide +kernel⟩
def spFirst (C : Addr) : Sp := fun vs H Q _ => ∃ v b, vs = [v] ∧ BlkAt C H v b ∧ ∀ H' p, Same H H' → H p = none → H' p = some (.tup [.int b.t, .int b.l]) → Q (.ref p) H'
theorem fn_first {f : Addr} {fd : FuncData} (F : FnD K "first_cell" "first_cell" sFirst [] f fd) (T : BK K mg C) : FnOk P w K mg base C8.CX0 1 f fd ["block"] (spFirst C) := by
  refine F.ok scFirst (fun vs H Q E h => ?_) (fun cdv A outer s H vs Q E hr h => ?_)
  · obtain ⟨v, b, rfl, _⟩ := h
    rfl
  · obtain ⟨v, b, rfl, ⟨a, dx, rfl, ha⟩, k⟩ := h
    refine ⟨_, PSs.nox (pss_one (ps_ret (pe_tup (pa_cons (pe_fld (pv 0) rfl) (pa_cons (pe_fld (pv 0) rfl) pa_nil))))), ?_⟩
    exact ⟨_, rfl, a, C, dx, _, _, rfl, ha, T.cl, T.nt, bF_top, _, rfl, a, C, dx, _, _, rfl, ha, T.cl, T.nl, bF_left, (by show 2 ≤ sizeLine; decide), fun p hp => k _ p (same_new hp) hp upd_same⟩
theorem bn_first {f : Addr} {fd : FuncData} (F : FnD K "first_cell" "first_cell" sFirst [] f fd) : Binds K fd ["block"] [] := F.bindsN fun _ _ _ _ _ _ us hl => match us, hl with | [_], _ => rfl
theorem ok_first {f : Addr} {fd : FuncData} (F : FnD K "first_cell" "first_cell" sFirst [] f fd) (g : mg "first_cell" = some (.ref f)) (T : BK K mg C) : C8.Cal P w K mg base 1 "first_cell" (spFirst C) [] :=
  ⟨f, fd, ["block"], [], fn_first F T, g, F.kp, bn_first F, .nil⟩
abbrev sEither : Stmt := top 36
abbrev sBoth : Stmt := top 37
abbrev sAlone : Stmt := top 38
theorem scEither : FnScope ["one", "other"] ["one", "other"] (defScope sEither) := ⟨rfl, rfl, rfl, by decide +kernel, rfl, by decide +kernel, by decide +kernel⟩
theorem scBoth : FnScope ["one", "other"] ["one", "other"] (defScope sBoth) := ⟨rfl, rfl, rfl, by decide +kernel, rfl, by decide +kernel, by decide +kernel⟩
theorem scAlone : FnScope ["one", "other"] ["one", "other"] (defScope sAlone) := ⟨rfl, rfl, rfl, by decide +kernel, rfl, by decide +kernel, by decide +kernel⟩
theorem held_either {f : Addr} {fd : FuncData} (F : FnD K "either" "either" sEither [] f fd) : Held P w K mg base 1 f (spKeep kOr) := by
  refine ⟨fd, ["one", "other"], F.ok scEither (fun vs H Q E h => ?_) (fun cdv A outer s H vs Q E hr h => ?_), F.kp, F.bindsN fun _ _ _ _ _ _ us hl => match us, hl with | [_, _], _ => rfl⟩
  · obtain ⟨a, b, rfl, _⟩ := h
    rfl
  · obtain ⟨a, b, rfl, k⟩ := h
    refine ⟨_, PSs.nox (pss_one (ps_ret (pe_or (pv 0) (pe_one (pv 1))))), ?_⟩
    cases a
    · exact ⟨_, rfl, false, rfl, iteF ⟨_, rfl, k⟩⟩
    · exact ⟨_, rfl, true, rfl, iteT k⟩
theorem held_both {f : Addr} {fd : FuncData} (F : FnD K "both" "both" sBoth [] f fd) : Held P w K mg base 1 f (spKeep kAnd) := by
  refine ⟨fd, ["one", "other"], F.ok scBoth (fun vs H Q E h => ?_) (fun cdv A outer s H vs Q E hr h => ?_), F.kp, F.bindsN fun _ _ _ _ _ _ us hl => match us, hl with | [_, _], _ => rfl⟩
  · obtain ⟨a, b, rfl, _⟩ := h
    rfl
  · obtain ⟨a, b, rfl, k⟩ := h
    refine ⟨_, PSs.nox (pss_one (ps_ret (pe_and (pv 0) (pe_one (pv 1))))), ?_⟩
    cases a
    · exact ⟨_, rfl, false, rfl, iteF k⟩
    · exact ⟨_, rfl, true, rfl, iteT ⟨_, rfl, k⟩⟩
theorem held_alone {f : Addr} {fd : FuncData} (F : FnD K "one_alone" "one_alone" sAlone [] f fd) : Held P w K mg base 1 f (spKeep kSub) := by
  refine ⟨fd, ["one", "other"], F.ok scAlone (fun vs H Q E h => ?_) (fun cdv A outer s H vs Q E hr h => ?_), F.kp, F.bindsN fun _ _ _ _ _ _ us hl => match us, hl with | [_, _], _ => rfl⟩
  · obtain ⟨a, b, rfl, _⟩ := h
    rfl
  · obtain ⟨a, b, rfl, k⟩ := h
    refine ⟨_, PSs.nox (pss_one (ps_ret (pe_and (pv 0) (pe_one (pe_not (pv 1)))))), ?_⟩
    cases a
    · exact ⟨_, rfl, false, rfl, iteF k⟩
    · exact ⟨_, rfl, true, rfl, iteT ⟨_, rfl, b, rfl, k⟩⟩
end
/-! ### a block made -/
theorem mk_same {H : Hp} {x dx C : Addr} {fs : List (Str × V)} (hx : H x = none) (hdx : H dx = none) : Same H (upd (upd (upd H dx (.own x)) x (.ins C dx [])) x (.ins C dx fs)) := fun b o e => by
  rw [upd_upd, upd_ne (ne_of_none e hx), upd_ne (ne_of_none e hdx)]
  exact e
/-! ### the open runs as a dict -/
section
variable {P : Program} {w : World}
def BegR (e : NEn) (p : CBM.Seg × Int) : Prop := e.1 = [.int p.1.1, oV p.1.2] ∧ e.2.2 = .int p.2
/-- at d stands the dict of these open runs -/
def Beg (P : Program) (w : World) (H : Hp) (d : Addr) (bg : Opn) : Prop := ∃ es, NDict P w H d es ∧ Paired BegR es bg
theorem Beg.same {H H' : Hp} {d : Addr} {bg : Opn} (s : Same H H') (h : Beg P w H d bg) : Beg P w H' d bg := let ⟨es, h1, h2⟩ := h; ⟨es, h1.ext s, h2⟩
theorem kflat (s : CBM.Seg) : ([V.int s.1, oV s.2] : List V).all kfl = true := by
  obtain ⟨a, o⟩ := s
  cases o <;> rfl
theorem key_eq {a b : CBM.Seg} : ([V.int a.1, oV a.2] : List V) = [V.int b.1, oV b.2] ↔ a = b := by
  constructor
  · intro h
    injection h with h1 h2
    injection h2 with h2 _
    injection h1 with h1
    exact Prod.ext h1 (oV_inj h2)
  · rintro rfl
    rfl
theorem beg_get {es : List NEn} {bg : Opn} (h : Paired BegR es bg) (s : CBM.Seg) : getN es [V.int s.1, oV s.2] = (bg.find? fun p => decide (p.1 = s)).map fun p => V.int p.2 := by
  induction h with
  | nil => rfl
  | @cons e p es bg r t ih =>
    unfold getN at ih ⊢
    rw [List.find?_cons, List.find?_cons]
    by_cases hp : p.1 = s
    · rw [decide_eq_true hp, decide_eq_true (by rw [r.1]; exact key_eq.mpr hp)]
      exact congrArg some r.2
    · rw [decide_eq_false hp, decide_eq_false (by rw [r.1]; exact fun z => hp (key_eq.mp z))]
      exact ih
theorem beg_del {es : List NEn} {bg : Opn} (h : Paired BegR es bg) (s : CBM.Seg) : Paired BegR (delN es [V.int s.1, oV s.2]) (bg.filter fun p => decide (p.1 ≠ s)) := by
  induction h with
  | nil => exact .nil
  | @cons e p es bg r t ih =>
    unfold delN at ih ⊢
    rw [List.filter_cons, List.filter_cons]
    by_cases hp : p.1 = s
    · rw [if_neg (by rw [r.1]; simp [key_eq.mpr hp]), if_neg (by simp [hp])]
      exact ih
    · rw [if_pos (decide_eq_true (by rw [r.1]; exact fun z => hp (key_eq.mp z))), if_pos (by simp [hp])]
      exact .cons r ih
theorem beg_snoc {es : List NEn} {bg : Opn} (h : Paired BegR es bg) {b : Addr} {s : CBM.Seg} {f : Int} : Paired BegR (es ++ [([V.int s.1, oV s.2], b, V.int f)]) (bg ++ [(s, f)]) := paired_snoc' h ⟨rfl, rfl⟩
theorem walk_itemsN {d : Addr} {od : Obj} {xs : List (NestedKey × Addr × Value)} {es : List NEn} : Walk (ItN P w d od xs es) es.length (fun H => H d = some (.frz od (dnO P w d xs))) (fun i H x H' => ∃ T e, es[i]? = some e ∧ x = .ref T ∧ H T = none ∧ H' = upd H T (.tup [.ref e.2.1, e.2.2])) :=
  ⟨fun _ _ hi q => ⟨q, hi⟩, fun _ q => ⟨q, Nat.le_refl _⟩, fun _ _ _ _ _ _ y => y⟩
end
section
variable {X : Cx} {P : Program} {w : World} {pos : Pos}
theorem pe_nnewP (P : Program) (w : World) (h1 : X.prog = P) (h2 : X.w = w) : PE X (.Dict [] [] pos) (tNNew P w) := by
  subst h1 h2
  exact pe_nnew
end
end CB
end
section
set_option maxHeartbeats 4000000
/-! the form of bands -/
namespace CB
open PySem PySem.Spec PyProof.Rows L2 CBM
section
variable {P : Program} {w : World} {K : PySem.W.Frag} {mg : Str → Option Value} {base : Heap} {C : Addr}
/-! ### the dict of the open runs, other objects changing -/
theorem dn_ne {d : Addr} {xs : List (NestedKey × Addr × Value)} {o : HO} (h : isExt o = false) : dnO P w d xs ≠ o := by
  rintro rfl
  cases h
theorem beg_del' {H : Hp} {D d : Addr} {bg : Opn} {o : HO} (hD : H D = some o) (ho : isExt o = false) (ht : ∀ ks, o ≠ .tup ks) (h : Beg P w H d bg) : Beg P w (delH' H D) d bg := by
  obtain ⟨es, ⟨xs, h1, h2, h3⟩, h4⟩ := h
  refine ⟨es, ⟨xs, by rw [del_ne (ne_of h1 hD (dn_ne ho))]; exact h1, h2, fun e he => ⟨(h3 e he).1, ?_⟩⟩, h4⟩
  rw [del_ne (ne_of (h3 e he).2 hD fun z => ht _ z.symm)]
  exact (h3 e he).2
/-- blocks in a list, the dict changing -/
theorem blks_deld {H : Hp} {D d : Addr} {bs : List Blk} {xs : List (NestedKey × Addr × Value)} (hd : H d = some (dnO P w d xs)) (h : Blks C H D bs) : Blks C (delH' H d) D bs := by
  obtain ⟨vs, h1, h2⟩ := h
  exact ⟨vs, by rw [del_ne (ne_of h1 hd fun z => nomatch z)]; exact h1, paired_imp (fun _ _ z => blk_delX hd (fun _ _ _ z => nomatch z) z) h2⟩
/-- an item of begun.items() -/
def ItmR (H : Hp) (v : V) (p : CBM.Seg × Int) : Prop := ∃ T kt, v = .ref T ∧ H T = some (.tup [.ref kt, .int p.2]) ∧ H kt = some (.tup [.int p.1.1, oV p.1.2])
abbrev sForm : Stmt := top 34
abbrev NForm : List Str := ["bands", "found", "begun", "behind", "first", "last", "runs", "run", "top"]
theorem scForm : FnScope NForm ["bands"] (defScope sForm) := ⟨rfl, rfl, rfl, by decide +kernel, rfl, by decide +kernel, by decide +kernel⟩
def spForm (C : Addr) : Sp := fun vs H Q _ => ∃ (a : Addr) (gs : List Band), vs = [.ref a] ∧ Bands H a gs ∧ BandsOk gs ∧ gs.length ≤ 5000 ∧ runsN gs ≤ 40000 ∧ ∀ H' p, Same H H' → H p = none → Blks C H' p (formOf gs) → Q (.ref p) H'
/-- the heap without two objects -/
def del2 (H : Hp) (D d : Addr) : Hp := delH' (delH' H D) d
theorem del2_1 {H : Hp} {D d : Addr} (h : D ≠ d) : del2 H D d D = none := by
  unfold del2
  rw [del_ne h, del_self]
theorem del2_2 {H : Hp} {D d : Addr} : del2 H D d d = none := del_self
theorem del2_ne {H : Hp} {D d c : Addr} (h1 : c ≠ D) (h2 : c ≠ d) : del2 H D d c = H c := by
  unfold del2
  rw [del_ne h2, del_ne h1]
theorem del2_sub {H : Hp} {D d : Addr} : Same (del2 H D d) H := del_sub.trans del_sub
theorem del2_same {H H' : Hp} {D d : Addr} (s : Same H H') (h1 : H D = none) (h2 : H d = none) : Same H (del2 H' D d) := del_same (del_same s h1) h2
theorem ok_form {f f1 : Addr} {fd fd1 : FuncData} (F : FnD K "form_of" "form_of" sForm [] f fd) (g : mg "form_of" = some (.ref f)) (B : Bi mg) (T : BK K mg C) (F1 : FnD K "first_cell" "first_cell" sFirst [] f1 fd1) (g1 : mg "first_cell" = some (.ref f1))
    (cB : C8.Mak P w K mg base 4 "Block" C (spBInit C) []) : C8.Cal P w K mg base 6 "form_of" (spForm C) [] := by
  refine calD F g (F.bindsN fun _ _ _ _ _ _ us hl => match us, hl with | [_], _ => rfl) .nil scForm (fun vs H Q E h => ?_) (fun cdv A outer s H vs Q E hr h => ?_)
  · obtain ⟨a, gs, rfl, _⟩ := h
    rfl
  · obtain ⟨a, gs, rfl, ⟨xs, ha, pgs⟩, ok, zl, zr, k⟩ := h
    refine ⟨_, pss_cons (ps_set (i := 1) scForm.nd rfl (Or.inl rfl) (pe_lst pa_nil))
      (pss_cons (ps_set (i := 2) scForm.nd rfl (Or.inl rfl) (pe_nnewP P w rfl rfl))
      (pss_cons (ps_set (i := 3) scForm.nd rfl (Or.inr rfl) pe_int)
      (pss_cons (ps_for PassesOwn.never rfl (pi_list (pv 0)) (pg_tup rfl (pgs_cons (pg_name (i := 4) scForm.nd rfl (.inl rfl)) (pgs_cons (pg_name (i := 5) scForm.nd rfl (.inl rfl)) (pgs_cons (pg_name (i := 6) scForm.nd rfl (.inl rfl)) pgs_nil))))
        (pss_cons (ps_for PassesOwn.never rfl (pi_list (pe_listItemsN rfl (pv 2) rfl B.list (by decide +kernel))) (pg_tup rfl (pgs_cons (pg_name (i := 7) scForm.nd rfl (.inl rfl)) (pgs_cons (pg_name (i := 8) scForm.nd rfl (.inl rfl)) pgs_nil)))
          (pss_one (ps_if (PW.pt (pw_or (pt_cmpR (op_notInD (u65 hr)) (pv 7) (pv 6) (by rfl)) (pw_or1 (pt_cmpR op_ne (pv 4) (pe_op op_add (pv 3) pe_int) (nomark _)))))
            (pss_cons (ps_expr (pe_bm PySem.F.plainAttrs_list PySem.F.slot_list_append PySem.F.type_list_append mt_append (pv 1) (pa_cons (C8.pe_mk cB hr (by decide) rfl (pa_cons (pv 8) (pa_cons (pe_ix (ixT K) (pv 7) pe_int (fun _ _ => rfl)) (pa_cons (pv 3) (pa_cons (pe_ix (ixT K) (pv 7) pe_int (fun _ _ => rfl)) pa_nil))))) pa_nil)))
            (pss_one (ps_expr (pe_npop hr (pv 2) (pv 7) ⟨rfl, rfl, rfl, rfl⟩)))) pss_nil)))
        (pss_cons (ps_for PassesOwn.never rfl (pi_list (pv 6)) (pg_name (i := 7) scForm.nd rfl (.inl rfl)) (pss_one (ps_expr (pe_nsetd hr (pv 2) (pv 7) (pv 4) ⟨rfl, rfl, rfl, rfl⟩))))
        (pss_one (ps_set (i := 3) scForm.nd rfl (Or.inr rfl) (pv 5))))))
      (pss_cons (ps_expr (pe_bm PySem.F.plainAttrs_list PySem.F.slot_list_extend PySem.F.type_list_extend mt_extend (pv 1) (pa_cons
          (pe_lock (pe_lc (own := [("run", 7), ("top", 8)]) (g := gTup K 2 (gCons (gName 7) (gCons (gName 8) gNil))) (tt := tYes) rfl scForm.nd (pi_itemsN (pv 2)) (blkOk_by (N := NForm) (sc := defScope sForm) (by decide +kernel))
            (fun _ _ _ _ _ => pg_tup rfl (pgs_cons (pg_name (i := 7) scForm.nd rfl (Or.inl rfl)) (pgs_cons (pg_name (i := 8) scForm.nd rfl (Or.inl rfl)) pgs_nil))) (fun _ _ _ _ _ => pts_nil)
            (fun _ _ _ _ _ => C8.pe_mk cB hr (by decide) rfl (pa_cons (pv 8) (pa_cons (pe_ix (ixT K) (pv 7) pe_int (fun _ _ => rfl)) (pa_cons (pv 3) (pa_cons (pe_ix (ixT K) (pv 7) pe_int (fun _ _ => rfl)) pa_nil))))))) pa_nil)))
      (pss_one (ps_ret (pe_callBK (cr_sortedK (fn_first F1 T) (bn_first F1) (hr.mono (by decide))) rfl B.sorted (by decide +kernel) (pa_cons (pv 1) pa_nil) (pk_cons (C8.pe_gc (v := .ref f1) rfl ⟨_, g1, rfl⟩) pk_nil)))))))), ?_⟩
    refine ⟨Nat.zero_le _, fun D hD => ?_⟩
    refine fun d hd hnd => ?_
    have nDd : D ≠ d := fun z => by
      rw [← z, upd_same] at hd
      cases hd
    have hdH : H d = none := by rw [upd_ne nDd.symm] at hd; exact hd
    have s2 : Same H (upd (upd H D (.lst [])) d (dnO P w d [])) := (same_new hD).trans (same_new hd)
    have hD2 : (upd (upd H D (.lst [])) d (dnO P w d [])) D = some (.lst []) := by rw [upd_ne nDd, upd_same]
    have hbeg : Beg P w (upd (upd H D (.lst [])) d (dnO P w d [])) d [] := ⟨[], hnd, .nil⟩
    clear hnd hd
    generalize upd (upd H D (.lst [])) d (dnO P w d []) = H2 at s2 hD2 hbeg
    have sH0 : Same H (del2 H2 D d) := del2_same s2 hD hdH
    have s02 : Same (del2 H2 D d) H2 := del2_sub
    have nD0 : (del2 H2 D d) D = none := del2_1 nDd
    have nd0 : (del2 H2 D d) d = none := del2_2
    generalize del2 H2 D d = H0 at sH0 s02 nD0 nd0
    refine ⟨_, rfl, a, rfl, ⟨_, sql (s2 _ _ ha)⟩, for_listG0 (H0 := H0) (R := BandAt) (sql (sH0 _ _ ha)) (paired_imp (fun _ _ z => BandAt.same sH0 z) pgs) (fun i σ H4 => ∃ f l r ru tp, σ = [some (.ref a), some (.ref D), some (.ref d), some (oV (fTake gs i).behind), f, l, r, ru, tp] ∧ Same H0 H4 ∧ Blks C H4 D (fTake gs i).found ∧ Beg P w H4 d (fTake gs i).begun)
      ⟨_, _, _, _, _, rfl, s02, ⟨[], hD2, .nil⟩, hbeg⟩ (fun i σ H4 ⟨_, _, _, _, _, _, s4, _⟩ => s4) ?_ ?_⟩
    · rintro i x gb σ H4 hi hg ⟨t, q, rfl, ht, hq⟩ ⟨f', l', r', ru, tp, rfl, s4, hfo, hbg⟩
      have fok := fTake_ok ok (i := i) (by omega)
      have flen := fTake_len gs i
      have gok := ok.one gb (List.mem_of_getElem? hg)
      obtain ⟨m, hm, hmf⟩ := fTake_ahead ok hg
      have fsucc := fTake_succ hg
      generalize fTake gs i = st at fok flen hm fsucc hfo hbg
      refine ⟨t, _, rfl, sqt (s4 _ _ ht), rfl, _, _, rfl, _, _, rfl, _, _, rfl, rfl, ?_⟩
      obtain ⟨es, hnd, hes⟩ := id hbg
      refine ⟨_, rfl, d, es, rfl, hnd, fun H5 p5 ts e5 hp5 hl5 hts => ?_⟩
      -- the base of the first inner loop
      have s5 : Same H4 H5 := e5
      obtain ⟨xs0, hdx, hpx, hkx⟩ := id hnd
      obtain ⟨vf, hDf, hpf⟩ := id hfo
      have hD5 := s5 _ _ hDf
      have hd5 := s5 _ _ hdx
      have sB : Same H0 (del2 H5 D d) := del2_same (s4.trans s5) nD0 nd0
      have np5D : p5 ≠ D := ne_of_none' hp5 hDf
      have np5d : p5 ≠ d := ne_of_none' hp5 hdx
      have nb : ∀ {c : Addr} {ks : List V}, H5 c = some (.tup ks) → (del2 H5 D d) c = some (.tup ks) := fun {c ks} e => by
        rw [del2_ne (ne_of e hD5 fun z => nomatch z) (ne_of e hd5 fun z => nomatch z)]
        exact e
      have hl5' : (del2 H5 D d) p5 = some (.lst (ts.map V.ref)) := by
        rw [del2_ne np5D np5d]
        exact hl5
      have hits : Paired (ItmR (del2 H5 D d)) (ts.map V.ref) st.begun := by
        have hk5 : ∀ e ∈ es, H5 e.2.1 = some (.tup e.1) := fun e he => s5 _ _ (hkx e he).2
        clear hnd hpx hkx hl5 hl5' hbg fok flen fsucc
        generalize st.begun = bg at hes
        induction hts generalizing bg with
        | nil => cases hes; exact .nil
        | @cons t0 e0 ts0 es0 r0 _ ih =>
          cases hes with
          | @cons _ p0 _ bg0 r1 t1 =>
            refine .cons ⟨t0, e0.2.1, rfl, nb (by rw [r0, r1.2]), nb (by rw [hk5 e0 (List.mem_cons_self ..), r1.1])⟩ (ih (fun e he => hk5 e (List.mem_cons_of_mem _ he)) bg0 t1)
      have s55 : Same (del2 H5 D d) H5 := del2_sub
      have nDB : (del2 H5 D d) D = none := del2_1 nDd
      have ndB : (del2 H5 D d) d = none := del2_2
      refine ⟨p5, rfl, ⟨_, sql hl5⟩, ?_⟩
      have hfo5 : Blks C H5 D st.found := Blks.same' s5 hfo
      have hbg5 : Beg P w H5 d st.begun := hbg.same s5
      clear hnd hes hpx hkx hl5 hts hfo hbg e5 hpf hDf hD5 hd5 hdx nb
      generalize del2 H5 D d = HB at sB hl5' hits s55 nDB ndB
      refine for_listG0 (H0 := HB) (R := ItmR) (sql hl5') hits (fun j σ H6 => ∃ ru tp, σ = [some (.ref a), some (.ref D), some (.ref d), some (oV st.behind), some (.int gb.f), some (oV gb.e), some (.ref q), ru, tp] ∧ Same HB H6 ∧ Blks C H6 D (st.found ++ ((st.begun.take j).filter (ends1 gb st.behind)).map (mkB st.behind)) ∧ Beg P w H6 d ((st.begun.take j).filter (fun p => !ends1 gb st.behind p) ++ st.begun.drop j))
        ⟨_, _, rfl, s55, by rw [List.take_zero, List.filter_nil, List.map_nil, List.append_nil]; exact hfo5, by rw [List.take_zero, List.filter_nil, List.drop_zero]; exact hbg5⟩ (fun j σ H6 ⟨_, _, _, s6, _⟩ => s6) ?_ ?_
      · rintro j x pr σ H6 hj hpr ⟨T, kt, rfl, hT, hkt⟩ ⟨ru', tp', rfl, s6, hf6, hb6⟩
        refine ⟨T, _, rfl, sqt (s6 _ _ hT), rfl, _, _, rfl, _, _, rfl, rfl, ?_⟩
        have hk6 := s6 _ _ hkt
        have hq6 := Segs.same' (sB.trans s6) hq
        have prok := fok.begun pr (List.mem_of_getElem? hpr)
        have e1 : (!(gb.rs.map segD).any fun z => PyData.eqv z (segD pr.1)) = decide (pr.1 ∉ gb.rs) := by
          rw [List.any_map]
          have : (gb.rs.any ((fun z => PyData.eqv z (segD pr.1)) ∘ segD)) = decide (pr.1 ∈ gb.rs) := by
            rw [Bool.eq_iff_iff, List.any_eq_true, decide_eq_true_iff]
            constructor
            · rintro ⟨z, hz, e⟩
              have e' : PyData.eqv (segD z) (segD pr.1) = true := e
              rw [eqv_segD] at e'
              rw [← of_decide_eq_true e']
              exact hz
            · intro hz
              refine ⟨_, hz, ?_⟩
              show PyData.eqv (segD pr.1) (segD pr.1) = true
              rw [eqv_segD]
              exact decide_eq_true rfl
          rw [this]
          simp
        have e2 : (!decide (V.int gb.f = V.int (m + 1))) = decide (st.behind ≠ some (gb.f - 1)) := by
          rw [hm]
          by_cases h : gb.f = m + 1
          · simp [h]
          · have h2 : ¬ m = gb.f - 1 := by omega
            simp [h, h2]
        have hen : ends1 gb st.behind pr = (decide (pr.1 ∉ gb.rs) || decide (st.behind ≠ some (gb.f - 1))) := rfl
        -- the way of a run that ends
        have fl6 : (st.found ++ ((st.begun.take j).filter (ends1 gb st.behind)).map (mkB st.behind)).length ≤ 50000 := by
          rw [List.length_append, List.length_map]
          have h1 := List.length_filter_le (ends1 gb st.behind) (st.begun.take j)
          have h2 : (st.begun.take j).length ≤ st.begun.length := List.length_take_le' j _
          omega
        refine ⟨_, rfl, _, rfl, segD pr.1, gb.rs.map segD, segD_dp ⟨kt, rfl, hk6⟩, segsD_dp hq6, segD_sh _, segsD_sh _, decide (pr.1 ∉ gb.rs), by rw [e1], ?_⟩
        by_cases hin : pr.1 ∈ gb.rs
        · rw [decide_eq_false (show ¬ pr.1 ∉ gb.rs from fun z => z hin), Bool.false_or] at hen
          rw [decide_eq_false (show ¬ pr.1 ∉ gb.rs from fun z => z hin)]
          refine iteF ⟨_, rfl, _, rfl, m, 1, by rw [hm]; rfl, rfl, rfl, decide (st.behind ≠ some (gb.f - 1)), by rw [← e2], ?_⟩
          cases hE : ends1 gb st.behind pr with
          | true =>
            rw [← hen, hE]
            refine iteT ?_
            obtain ⟨acc, hDa, hpa⟩ := id hf6
            refine ⟨_, rfl, Or.inl ⟨rfl, _, sql hDa⟩, _, rfl, _, rfl, kt, _, _, _, rfl, rfl, sqt hk6, atI_nat (j := 0) rfl, _, rfl, _, rfl, kt, _, _, _, rfl, rfl, sqt hk6, atI_nat (j := 1) rfl, fun x dx hx hdx hne => ⟨x, dx, mkB st.behind pr, rfl, mkB_ok prok, upd_same, rfl, ?_⟩⟩
            have sx := mk_same (C := C) (fs := bF (mkB st.behind pr).t (mkB st.behind pr).l (mkB st.behind pr).b (mkB st.behind pr).r) hx hdx
            have hbx : BlkAt C (upd (upd (upd H6 dx (.own x)) x (.ins C dx [])) x (.ins C dx (bF (mkB st.behind pr).t (mkB st.behind pr).l (mkB st.behind pr).b (mkB st.behind pr).r))) (.ref x) (mkB st.behind pr) := ⟨x, dx, rfl, upd_same⟩
            have hfx := Blks.same' sx hf6
            have hbgx := hb6.same sx
            have skx := sx _ _ hk6
            have s6x := s6.trans sx
            generalize upd (upd (upd H6 dx (.own x)) x (.ins C dx [])) x (.ins C dx (bF (mkB st.behind pr).t (mkB st.behind pr).l (mkB st.behind pr).b (mkB st.behind pr).r)) = H7 at hbx hfx hbgx skx s6x sx
            obtain ⟨acc', h1, h2, h3⟩ := lst_snoc (R := BlkAt C) (y := .ref x) (m := mkB st.behind pr) (fun s h => BlkAt.same s h) blk_del hfx hbx
            refine ⟨D, _, _, rfl, rfl, h1, by rw [h2]; exact sz_lt (by omega), ?_⟩
            have s8 : Same HB (upd H7 D (.lst (acc' ++ [.ref x]))) := sm_mut s6x nDB
            have hb8 : Beg P w (upd H7 D (.lst (acc' ++ [.ref x]))) d ((st.begun.take j).filter (fun p => !ends1 gb st.behind p) ++ st.begun.drop j) := Beg.same del_upd (beg_del' h1 rfl (fun _ z => nomatch z) hbgx)
            have hk8 := s8 _ _ hkt
            generalize upd H7 D (.lst (acc' ++ [.ref x])) = H8 at h3 s8 hb8 hk8
            obtain ⟨es8, hn8, hp8⟩ := id hb8
            refine ⟨_, rfl, d, es8, rfl, hn8, _, rfl, kt, _, .int pr.2, es8, rfl, hk8, kflat pr.1, hn8, ?_, fun H9 hn9 keep9 back9 => ?_⟩
            · rw [beg_get hp8, find_left fok.nd hpr]
              rfl
            obtain ⟨xs8, hd8, _, _⟩ := id hn8
            have s89 : Same (delH' H8 d) H9 := same_del keep9
            refine ⟨_, _, rfl, (del_same s8 ndB).trans s89, ?_, es8.filter (fun e => decide (e.1 ≠ [V.int pr.1.1, oV pr.1.2])), hn9, ?_⟩
            · have e3 : ((st.begun.take (j + 1)).filter (ends1 gb st.behind)).map (mkB st.behind) = ((st.begun.take j).filter (ends1 gb st.behind)).map (mkB st.behind) ++ [mkB st.behind pr] := by
                rw [take_succ' hpr, List.filter_append, List.map_append]
                simp [hE]
              rw [e3, ← List.append_assoc]
              exact Blks.same' s89 (blks_deld hd8 h3)
            · have e4 := pop_left (e := ends1 gb st.behind) fok.nd hpr hE
              rw [← e4]
              exact beg_del hp8 pr.1
          | false =>
            rw [← hen, hE]
            refine iteF ⟨_, _, rfl, s6, ?_, ?_⟩
            · have e3 : ((st.begun.take (j + 1)).filter (ends1 gb st.behind)).map (mkB st.behind) = ((st.begun.take j).filter (ends1 gb st.behind)).map (mkB st.behind) := by
                rw [take_succ' hpr, List.filter_append, List.map_append]
                simp [hE]
              rw [e3]
              exact hf6
            · have e4 := keep_left (e := ends1 gb st.behind) hpr hE
              rw [← e4]
              exact hb6
        · have hE : ends1 gb st.behind pr = true := by
            rw [hen, decide_eq_true hin]
            rfl
          rw [decide_eq_true hin]
          refine iteT (iteT ?_)
          obtain ⟨acc, hDa, hpa⟩ := id hf6
          refine ⟨_, rfl, Or.inl ⟨rfl, _, sql hDa⟩, _, rfl, _, rfl, kt, _, _, _, rfl, rfl, sqt hk6, atI_nat (j := 0) rfl, _, rfl, _, rfl, kt, _, _, _, rfl, rfl, sqt hk6, atI_nat (j := 1) rfl, fun x dx hx hdx hne => ⟨x, dx, mkB st.behind pr, rfl, mkB_ok prok, upd_same, rfl, ?_⟩⟩
          have sx := mk_same (C := C) (fs := bF (mkB st.behind pr).t (mkB st.behind pr).l (mkB st.behind pr).b (mkB st.behind pr).r) hx hdx
          have hbx : BlkAt C (upd (upd (upd H6 dx (.own x)) x (.ins C dx [])) x (.ins C dx (bF (mkB st.behind pr).t (mkB st.behind pr).l (mkB st.behind pr).b (mkB st.behind pr).r))) (.ref x) (mkB st.behind pr) := ⟨x, dx, rfl, upd_same⟩
          have hfx := Blks.same' sx hf6
          have hbgx := hb6.same sx
          have skx := sx _ _ hk6
          have s6x := s6.trans sx
          generalize upd (upd (upd H6 dx (.own x)) x (.ins C dx [])) x (.ins C dx (bF (mkB st.behind pr).t (mkB st.behind pr).l (mkB st.behind pr).b (mkB st.behind pr).r)) = H7 at hbx hfx hbgx skx s6x sx
          obtain ⟨acc', h1, h2, h3⟩ := lst_snoc (R := BlkAt C) (y := .ref x) (m := mkB st.behind pr) (fun s h => BlkAt.same s h) blk_del hfx hbx
          refine ⟨D, _, _, rfl, rfl, h1, by rw [h2]; exact sz_lt (by omega), ?_⟩
          have s8 : Same HB (upd H7 D (.lst (acc' ++ [.ref x]))) := sm_mut s6x nDB
          have hb8 : Beg P w (upd H7 D (.lst (acc' ++ [.ref x]))) d ((st.begun.take j).filter (fun p => !ends1 gb st.behind p) ++ st.begun.drop j) := Beg.same del_upd (beg_del' h1 rfl (fun _ z => nomatch z) hbgx)
          have hk8 := s8 _ _ hkt
          generalize upd H7 D (.lst (acc' ++ [.ref x])) = H8 at h3 s8 hb8 hk8
          obtain ⟨es8, hn8, hp8⟩ := id hb8
          refine ⟨_, rfl, d, es8, rfl, hn8, _, rfl, kt, _, .int pr.2, es8, rfl, hk8, kflat pr.1, hn8, ?_, fun H9 hn9 keep9 back9 => ?_⟩
          · rw [beg_get hp8, find_left fok.nd hpr]
            rfl
          obtain ⟨xs8, hd8, _, _⟩ := id hn8
          have s89 : Same (delH' H8 d) H9 := same_del keep9
          refine ⟨_, _, rfl, (del_same s8 ndB).trans s89, ?_, es8.filter (fun e => decide (e.1 ≠ [V.int pr.1.1, oV pr.1.2])), hn9, ?_⟩
          · have e3 : ((st.begun.take (j + 1)).filter (ends1 gb st.behind)).map (mkB st.behind) = ((st.begun.take j).filter (ends1 gb st.behind)).map (mkB st.behind) ++ [mkB st.behind pr] := by
              rw [take_succ' hpr, List.filter_append, List.map_append]
              simp [hE]
            rw [e3, ← List.append_assoc]
            exact Blks.same' s89 (blks_deld hd8 h3)
          · have e4 := pop_left (e := ends1 gb st.behind) fok.nd hpr hE
            rw [← e4]
            exact beg_del hp8 pr.1
      · rintro σ H6 ⟨ru', tp', rfl, s6, hf6, hb6⟩
        rw [List.take_of_length_le (Nat.le_refl _)] at hf6
        rw [List.take_of_length_le (Nat.le_refl _), List.drop_of_length_le (Nat.le_refl _), List.append_nil] at hb6
        obtain ⟨xq, hqx, pqx⟩ := id hq
        have s06 := sB.trans s6
        refine ⟨_, rfl, q, rfl, ⟨_, sql (s06 _ _ hqx)⟩, ?_⟩
        refine for_listG0 (H0 := H0) (R := SegAt) (sql hqx) pqx (fun j σ H7 => ∃ ru tp, σ = [some (.ref a), some (.ref D), some (.ref d), some (oV st.behind), some (.int gb.f), some (oV gb.e), some (.ref q), ru, tp] ∧ Same H0 H7 ∧ Blks C H7 D (st.found ++ (st.begun.filter (ends1 gb st.behind)).map (mkB st.behind)) ∧ Beg P w H7 d ((gb.rs.take j).foldl (setd gb.f) (st.begun.filter (fun p => !ends1 gb st.behind p))))
          ⟨_, _, rfl, s06, hf6, by rw [List.take_zero]; exact hb6⟩ (fun j σ H7 ⟨_, _, _, s7, _⟩ => s7) ?_ ?_
        · rintro j x sg σ H7 hj hsg ⟨kt, rfl, hkt⟩ ⟨ru2, tp2, rfl, s7, hf7, hb7⟩
          obtain ⟨es7, hn7, hp7⟩ := id hb7
          have hk7 := s7 _ _ hkt
          have hlen7 : es7.length < sizeLine := by
            have h1 := Paired.length hp7
            have h2 := setds_len gb.f (gb.rs.take j) (st.begun.filter (fun p => !ends1 gb st.behind p))
            have h3 := List.length_filter_le (fun p => !ends1 gb st.behind p) st.begun
            have h4 : (gb.rs.take j).length ≤ gb.rs.length := List.length_take_le' j _
            have h5 : gb.rs.length ≤ runsN gs := runsN_one (List.mem_of_getElem? hg)
            exact sz_lt (by omega)
          refine ⟨_, rfl, d, es7, rfl, hn7, _, rfl, _, rfl, kt, _, es7, rfl, hk7, kflat sg, hn7, hlen7, fun v hv => ?_, fun hv H8 hn8 keep8 back8 => ?_⟩
          · refine ⟨_, _, rfl, s7, hf7, ?_⟩
            rw [foldl_take hsg]
            rw [beg_get hp7] at hv
            have e5 : setd gb.f ((gb.rs.take j).foldl (setd gb.f) (st.begun.filter (fun p => !ends1 gb st.behind p))) sg = (gb.rs.take j).foldl (setd gb.f) (st.begun.filter (fun p => !ends1 gb st.behind p)) := by
              unfold setd
              rw [if_pos]
              cases e6 : ((gb.rs.take j).foldl (setd gb.f) (st.begun.filter (fun p => !ends1 gb st.behind p))).find? (fun p => decide (p.1 = sg)) with
              | none =>
                unfold setd at e6
                rw [show ((gb.rs.take j).foldl (setd gb.f) (st.begun.filter (fun p => !ends1 gb st.behind p))).find? (fun p => decide (p.1 = sg)) = none from e6] at hv
                cases hv
              | some p => exact List.any_eq_true.mpr ⟨p, List.mem_of_find?_eq_some e6, List.find?_some (p := fun p : CBM.Seg × Int => decide (p.1 = sg)) e6⟩
            rw [e5]
            exact hb7
          · rw [beg_get hp7] at hv
            obtain ⟨xs7, hd7, _, _⟩ := id hn7
            have s78 : Same (delH' H7 d) H8 := same_del keep8
            refine ⟨_, _, rfl, (del_same s7 nd0).trans s78, Blks.same' s78 (blks_deld hd7 hf7), ?_⟩
            rw [foldl_take hsg]
            have e5 : setd gb.f ((gb.rs.take j).foldl (setd gb.f) (st.begun.filter (fun p => !ends1 gb st.behind p))) sg = (gb.rs.take j).foldl (setd gb.f) (st.begun.filter (fun p => !ends1 gb st.behind p)) ++ [(sg, gb.f)] := by
              generalize (gb.rs.take j).foldl (setd gb.f) (st.begun.filter (fun p => !ends1 gb st.behind p)) = bgs at hv
              unfold setd
              rw [if_neg]
              intro hany
              obtain ⟨p, hp1, hp2⟩ := List.any_eq_true.mp hany
              cases e6 : bgs.find? (fun p => decide (p.1 = sg)) with
              | none => exact List.find?_eq_none.mp e6 p hp1 hp2
              | some p' =>
                rw [e6] at hv
                cases hv
            rw [e5]
            exact ⟨_, hn8, beg_snoc hp7⟩
        · rintro σ H7 ⟨ru2, tp2, rfl, s7, hf7, hb7⟩
          rw [List.take_of_length_le (Nat.le_refl _)] at hb7
          have e3 : (fTake gs (i + 1)).behind = gb.e := by
            rw [fsucc]
            rfl
          refine ⟨_, rfl, some (.int gb.f), some (oV gb.e), some (.ref q), ru2, tp2, by rw [e3]; rfl, s7, ?_, ?_⟩
          · rw [fsucc]
            exact hf7
          · rw [fsucc]
            exact hb7
    · rintro σ H4 ⟨f', l', r', ru, tp, rfl, s4, hfo, hbg⟩
      have fok := fTake_ok ok (i := gs.length) (Nat.le_refl _)
      have flen := fTake_len gs gs.length
      have eR : fTake gs gs.length = fRun gs := by
        unfold fTake fRun
        rw [List.take_of_length_le (Nat.le_refl _)]
      rw [eR] at fok flen hfo hbg
      have k' : ∀ H' p, Same H H' → H p = none → Blks C H' p (((fRun gs).found ++ (fRun gs).begun.map (mkB (fRun gs).behind)).mergeSort leB) → Q (.ref p) H' := k
      rw [eR]
      clear k
      generalize fRun gs = st at fok flen hfo hbg k'
      have s04 := sH0.trans s4
      obtain ⟨vf, hDf, hpf⟩ := id hfo
      refine ⟨_, rfl, Or.inl ⟨rfl, _, sql hDf⟩, ?_⟩
      obtain ⟨es, ⟨xs0, hdx, hpx, hkx⟩, hes⟩ := id hbg
      refine ⟨d, dnO P w d xs0, hdx, trivial, fun od => ?_⟩
      have hdL : (upd H4 d (.frz od (dnO P w d xs0))) d = some (.frz od (dnO P w d xs0)) := upd_same
      have sL : Same (delH' H4 d) (upd H4 d (.frz od (dnO P w d xs0))) := del_upd
      generalize upd H4 d (.frz od (dnO P w d xs0)) = HL at hdL sL
      have hkL : ∀ e ∈ es, HL e.2.1 = some (.tup e.1) := fun e he => sL _ _ (by rw [del_ne (ne_of (hkx e he).2 hdx fun z => nomatch z)]; exact (hkx e he).2)
      refine ⟨_, rfl, d, od, xs0, es, rfl, hdL, hpx, fun E hE => ?_⟩
      have hle : es.length = st.begun.length := Paired.length hes
      have nEd : E ≠ d := ne_of_none' hE hdL
      refine lc_genW (ms := st.begun) (R := ItmR) (R' := BlkAt C) (keep := fun _ => true) (f := mkB st.behind) (hle ▸ walk_itemsN) hE (fun H5 s5 => s5 _ _ hdL) (fun j x H5 H6 pr hpr s5 y => ?_) (by omega) (fun s h => BlkAt.same s h) blk_del ?_ ?_
      · obtain ⟨T, e, he, rfl, hT, rfl⟩ := y
        obtain ⟨p', hp', r⟩ := paired_getI hes he
        rw [hpr] at hp'
        cases hp'
        have hk := s5 _ _ (hkL e (List.mem_of_getElem? he))
        refine ⟨same_new hT, T, e.2.1, rfl, by rw [upd_same, r.2], ?_⟩
        rw [upd_ne (ne_of_none hk hT), hk, r.1]
      · rintro x pr H5 hmem ⟨T, kt, rfl, hT, hkt⟩ s5 QT QF h1 h2
        have prok := fok.begun pr hmem
        refine ⟨T, _, rfl, sqt hT, rfl, _, _, rfl, _, _, rfl, rfl, rfl, iteT (B := QF H5) ⟨_, rfl, _, rfl, kt, _, _, _, rfl, rfl, sqt hkt, atI_nat (j := 0) rfl, _, rfl, _, rfl, kt, _, _, _, rfl, rfl, sqt hkt, atI_nat (j := 1) rfl, fun x dx hx hdx hne => ⟨x, dx, mkB st.behind pr, rfl, mkB_ok prok, upd_same, rfl, ?_⟩⟩⟩
        exact h1 rfl _ _ (mk_same hx hdx) ⟨x, dx, rfl, upd_same⟩
      · intro H5 s5 hL5
        rw [filtT] at hL5
        have hd5 := s5 _ _ hdL
        refine ⟨hd5, ?_⟩
        obtain ⟨ve, hE5, hpe⟩ := id hL5
        -- the lock is off
        have s6 : Same (delH' H5 d) (upd H5 d (dnO P w d xs0)) := del_upd
        have tr : ∀ {v b}, BlkAt C H5 v b → BlkAt C (upd H5 d (dnO P w d xs0)) v b := fun z => BlkAt.same s6 (blk_delX hd5 (fun _ _ _ z => nomatch z) z)
        have hD6 : (upd H5 d (dnO P w d xs0)) D = some (.lst vf) := by
          rw [upd_ne nDd]
          exact s5 _ _ (sL _ _ (by rw [del_ne nDd]; exact hDf))
        have hE6 : (upd H5 d (dnO P w d xs0)) E = some (.lst ve) := by rw [upd_ne nEd]; exact hE5
        have hpf6 : Paired (BlkAt C (upd H5 d (dnO P w d xs0))) vf st.found := paired_imp (fun v b z => tr (BlkAt.same s5 (BlkAt.same sL (blk_delX hdx (fun _ _ _ z => nomatch z) z)))) hpf
        have hpe6 := paired_imp (fun v b z => tr z) hpe
        have s46 : Same H (upd H5 d (dnO P w d xs0)) := fun b o e => by
          rw [upd_ne (ne_of_none e hdH)]
          exact s5 _ _ (sL _ _ (by rw [del_ne (ne_of_none e hdH)]; exact s04 _ _ e))
        generalize upd H5 d (dnO P w d xs0) = H6 at hD6 hE6 hpf6 hpe6 s46
        have l1 := Paired.length hpf6
        have l2 := Paired.length hpe6
        rw [List.length_map] at l2
        refine ⟨D, E, vf, ve, rfl, rfl, hD6, hE6, sz_le (by omega), ?_⟩
        have hall : Paired (BlkAt C H6) (vf ++ ve) (st.found ++ st.begun.map (mkB st.behind)) := paired_app hpf6 hpe6
        have hall7 : Paired (BlkAt C (upd H6 D (.lst (vf ++ ve)))) (vf ++ ve) (st.found ++ st.begun.map (mkB st.behind)) := paired_imp (fun _ _ z => BlkAt.same del_upd (blk_del hD6 z)) hall
        have hD7 : (upd H6 D (.lst (vf ++ ve))) D = some (.lst (vf ++ ve)) := upd_same
        have s47 : Same H (upd H6 D (.lst (vf ++ ve))) := sm_mut s46 hD
        generalize upd H6 D (.lst (vf ++ ve)) = H7 at hall7 hD7 s47
        have okall : ∀ b ∈ st.found ++ st.begun.map (mkB st.behind), okB b := fun b hb => by
          rcases List.mem_append.mp hb with hb | hb
          · exact fok.found b hb
          · obtain ⟨p, hp, rfl⟩ := List.mem_map.mp hb
            exact mkB_ok (fok.begun p hp)
        refine ⟨_, rfl, Blk, st.found ++ st.begun.map (mkB st.behind), Blk.t, Blk.l, BlkAt C H7, D, _, rfl, rfl, sql hD7, hall7, fun x b _ hxb H8 e8 Q' hQ' => ⟨x, b, rfl, BlkAt.same e8 hxb, fun H9 p s9 hp hp9 => hQ' _ _ s9 (.tup (sqt hp9) (.cons (.int _) (.cons (.int _) .nil)))⟩, fun ys p H8 e8 hp hp8 hys => ?_⟩
        exact k' H8 p (s47.trans e8) (s47.free hp) ⟨ys, hp8, paired_imp (fun _ _ z => BlkAt.same e8 z) hys⟩
end
end CB
end
section
set_option maxHeartbeats 4000000
/-! the class Area -/
namespace CB
open PySem PySem.Spec PyProof.Rows L2 CBM
structure AK (K : PySem.W.Frag) (mg : Str → Option Value) (C : Addr) : Prop where
  cl : Cls K C
  nf : NoAttr K C "form"
  mg : mg "Area" = some (.ref C)
  kp : PySem.W.keepIn K (.ref C) = true
  ins : C8.InsC K C
/-- the area at v, its form -/
def AreaAt (C CA : Addr) (H : Hp) (v : V) (bs : List Blk) : Prop := ∃ a dx l, v = .ref a ∧ H a = some (.ins CA dx [("form", .ref l)]) ∧ Blks C H l bs
theorem AreaAt.same {C CA : Addr} {H H' : Hp} {v : V} {bs : List Blk} (e : Same H H') (h : AreaAt C CA H v bs) : AreaAt C CA H' v bs := let ⟨a, dx, l, h1, h2, h3⟩ := h; ⟨a, dx, l, h1, e _ _ h2, Blks.same' e h3⟩
/-- .. its list of blocks new since H -/
def AreaF (C CA : Addr) (H H' : Hp) (v : V) (bs : List Blk) : Prop := ∃ a dx l, v = .ref a ∧ H' a = some (.ins CA dx [("form", .ref l)]) ∧ Blks C H' l bs ∧ H l = none
theorem AreaF.at {C CA : Addr} {H H' : Hp} {v : V} {bs : List Blk} (h : AreaF C CA H H' v bs) : AreaAt C CA H' v bs := let ⟨a, dx, l, h1, h2, h3, _⟩ := h; ⟨a, dx, l, h1, h2, h3⟩
/-- lists of blocks that the program can work with -/
def Fine (rs cs : List Int) (bs : List Blk) : Prop := rs.length ≤ 20 ∧ cs.length ≤ 20 ∧ Fits rs cs bs ∧ bs.length ≤ 400
theorem fine_nil (rs cs : List Int) (h1 : rs.length ≤ 20) (h2 : cs.length ≤ 20) : Fine rs cs [] := ⟨h1, h2, (fun _ z => nomatch z), Nat.zero_le _⟩
theorem fine_byK {rs cs : List Int} {one other : List Blk} (k : Bool → Bool → Bool) (h1 : Fine rs cs one) (h2 : Fine rs cs other) : BandsOk (bandsBy one other k) ∧ (bandsBy one other k).length ≤ 5000 ∧ runsN (bandsBy one other k) ≤ 40000 ∧ Fine rs cs (byK one other k) := by
  obtain ⟨a, b, c, d, e⟩ := byK_fit (k := k) h1.2.2.1 h2.2.2.1 h1.1 h1.2.1
  exact ⟨a, b, by omega, h1.1, h1.2.1, d, e⟩
theorem bF_nn {t l : Int} {b r : OI} : bF t l b r ≠ [] := fun e => by
  have h := bF_right (t := t) (l := l) (b := b) (r := r)
  rw [e] at h
  cases h
section
variable {P : Program} {w : World} {K : PySem.W.Frag} {mg : Str → Option Value} {base : Heap} {C CA : Addr}
abbrev sChkB : Stmt := top 39
theorem scChkB : FnScope ["blocks", "block"] ["blocks"] (defScope sChkB) := ⟨rfl, rfl, rfl, by decide +kernel, rfl, by decide +kernel, by decide +kernel⟩
def spChkB (C : Addr) : Sp := fun vs H Q _ => ∃ (a : Addr) (bs : List Blk), vs = [.ref a] ∧ Blks C H a bs ∧ bs.length ≤ 600 ∧ ∀ H', Same H H' → Q .non H'
theorem isi_own (D : C8.InsC K C) {H : Hp} {a dx : Addr} {fs : List (Str × V)} (h : H a = some (.ins C dx fs)) : TyX K H (.ref a) (.ref C) := .base (.ins h D.cl D.ha D.hn D.htk D.hm)
theorem ok_chkb {f : Addr} {fd : FuncData} (F : FnD K "checked_blocks" "checked_blocks" sChkB [] f fd) (g : mg "checked_blocks" = some (.ref f)) (B : Bi mg) (T : BK K mg C) : C8.Cal P w K mg base 1 "checked_blocks" (spChkB C) [] := by
  refine calD F g (F.bindsN fun _ _ _ _ _ _ us hl => match us, hl with | [_], _ => rfl) .nil scChkB (fun vs H Q E h => ?_) (fun cdv A outer s H vs Q E hr h => ?_)
  · obtain ⟨a, bs, rfl, _⟩ := h
    rfl
  · obtain ⟨a, bs, rfl, ⟨xs, ha, hp⟩, hz, k⟩ := h
    refine ⟨_, pss_one (ps_if (PW.pt (pw_or (pt_not (pt_val (bIsi B rfl (pa_cons (pv 0) (pa_cons (bt "list" "list" rfl B.list (by decide +kernel)) pa_nil)))))
      (pw_or1 (pt_not (pt_val (pe_callB (cr_all rfl) rfl B.all (by decide +kernel) (pa_cons (pe_lc (own := [("block", 1)]) (g := gName 1) (tt := tYes) (te := tCB (rIsi K) (tCons (tVar 1) (tCons (tC (.ref C)) tNil))) rfl scChkB.nd (pi_list (pv 0)) (blkOk_by (N := ["blocks", "block"]) (sc := defScope sChkB) (by decide +kernel))
        (fun _ _ _ _ _ => pg_name (i := 1) scChkB.nd rfl (Or.inl rfl)) (fun _ _ _ _ _ => pts_nil) (fun _ _ _ _ _ => pe_callB call_isi rfl B.isinstance (by decide +kernel) (pa_cons (pv 1) (pa_cons (C8.pe_gc (v := .ref C) rfl ⟨_, T.mg, rfl⟩) pa_nil)))) pa_nil))))))) (pss_one ps_never) pss_nil), ?_⟩
    refine ⟨_, rfl, _, _, _, _, true, rfl, .ty "list", .base (.lst ha), kit_ty (by decide +kernel), true, rfl, iteF ?_⟩
    refine ⟨_, rfl, a, rfl, ⟨_, sql ha⟩, fun D hD => lc_gen (R := BlkAt C) (R' := BlV) (keep := fun _ => true) (f := fun _ => true) hD (sql ha) hp (by omega) (fun s h => BlkAt.same s h) (fun _ h => h) (fun _ h => h) ?_ ?_⟩
    · rintro x m H1 _ ⟨u, dx, rfl, hu⟩ _ QT QF h1 h2
      exact ⟨rfl, iteT (B := QF H1) ⟨_, rfl, _, _, _, _, true, rfl, .own C, isi_own T.ins hu, T.ins.me, h1 rfl _ H1 (Same.refl _) rfl⟩⟩
    · intro H1 s1 hL
      refine ⟨D, _, rfl, sql (lst_bls hL), ?_⟩
      have e : ((bs.filter fun _ => true).map fun _ => true).all id = true := by
        rw [List.all_eq_true]
        intro b hb
        obtain ⟨_, _, rfl⟩ := List.mem_map.mp hb
        rfl
      rw [e]
      exact ⟨true, rfl, iteF (k H1 s1)⟩
abbrev sChkA : Stmt := top 40
theorem scChkA : FnScope ["thing"] ["thing"] (defScope sChkA) := ⟨rfl, rfl, rfl, by decide +kernel, rfl, by decide +kernel, by decide +kernel⟩
def spChkA (CA : Addr) : Sp := fun vs H Q _ => ∃ (a dx : Addr) (fs : List (Str × V)), vs = [.ref a] ∧ H a = some (.ins CA dx fs) ∧ Q .non H
theorem ok_chka {f : Addr} {fd : FuncData} (F : FnD K "checked_area" "checked_area" sChkA [] f fd) (g : mg "checked_area" = some (.ref f)) (B : Bi mg) (T : AK K mg CA) : C8.Cal P w K mg base 1 "checked_area" (spChkA CA) [] := by
  refine calD F g (F.bindsN fun _ _ _ _ _ _ us hl => match us, hl with | [_], _ => rfl) .nil scChkA (fun vs H Q E h => ?_) (fun cdv A outer s H vs Q E hr h => ?_)
  · obtain ⟨a, dx, fs, rfl, _⟩ := h
    rfl
  · obtain ⟨a, dx, fs, rfl, ha, k⟩ := h
    refine ⟨_, pss_one (ps_if (pt_not (pt_val (bIsi B rfl (pa_cons (pv 0) (pa_cons (C8.pe_gc (v := .ref CA) rfl ⟨_, T.mg, rfl⟩) pa_nil))))) (pss_one ps_never) pss_nil), ?_⟩
    exact ⟨_, rfl, _, _, _, _, true, rfl, .own CA, isi_own T.ins ha, T.ins.me, true, rfl, iteF k⟩
abbrev sAInit : Stmt := inClass (top 41) 0
theorem scAInit : FnScope ["self", "blocks"] ["self", "blocks"] (defScope sAInit) := ⟨rfl, rfl, rfl, by decide +kernel, rfl, by decide +kernel, by decide +kernel⟩
def spAInit (C CA : Addr) : Sp := fun vs H Q _ => ∃ (x dx : Addr) (v : V) (bs : List Blk) (rs cs : List Int), vs = [.ref x, v] ∧ H x = some (.ins CA dx []) ∧ ((v = .non ∧ bs = []) ∨ ∃ l, v = .ref l ∧ Blks C H l bs) ∧ Fine rs cs bs ∧
  ∀ H' l, H l = none → (∀ b o, b ≠ x → H b = some o → H' b = some o) → H' x = some (.ins CA dx [("form", .ref l)]) → Blks C H' l (areaOf bs) → Q .non H'
/-- where `either` stands -/
theorem ok_ainit {f fe : Addr} {fd : FuncData} {ds : List Value} {dvs : List V} {S : Addr → Option Sp} (F : FnD K "__init__" "Area.__init__" sAInit [.non] f fd) (b : Binds K fd ["self", "blocks"] ds) (d : Vals dvs ds) (M : Mk K CA f) (T : AK K mg CA) (ge : mg "either" = some (.ref fe)) (hS : S fe = some (spKeep kOr))
    (c1 : C8.Cal P w K mg base 1 "checked_blocks" (spChkB C) []) (c2 : C8.Cal P w K mg base 4 "bands_by" (spBands C S) []) (c3 : C8.Cal P w K mg base 6 "form_of" (spForm C) []) : C8.Mak P w K mg base 7 "Area" CA (spAInit C CA) dvs := by
  refine makD M T.mg F b d scAInit (fun vs H Q E h => ?_) (fun cdv A outer s H vs Q E hr h => ?_)
  · obtain ⟨x, dx, v, bs, rs, cs, rfl, _⟩ := h
    rfl
  · obtain ⟨x, dx, v, bs, rs, cs, rfl, hx, hv, hf, k⟩ := h
    refine ⟨_, pss_cons (ps_if (pt_cmpR op_isN (pv 1) pe_non (nomark _)) (pss_one (ps_set (i := 1) scAInit.nd rfl (Or.inl rfl) (pe_lst pa_nil))) pss_nil)
      (pss_cons (ps_expr (C8.pe_c c1 hr (by decide) rfl (pa_cons (pv 1) pa_nil)))
      (pss_one (ps_fld (pv 0) (C8.pe_c c3 hr (by decide) rfl (pa_cons (C8.pe_c c2 hr (by decide) rfl (pa_cons (pv 1) (pa_cons (pe_lst pa_nil) (pa_cons (C8.pe_gc (v := .ref fe) rfl ⟨_, ge, rfl⟩) pa_nil)))) pa_nil)) rfl))), ?_⟩
    have main : ∀ (l : Addr) (H1 : Hp), Same H H1 → Blks C H1 l bs → tSeq (tDrop (tCall (spChkB C) [] C8.E0 (tCons (tVar 1) tNil))) (sFld K (tVar 0) (tCall (spForm C) [] C8.E0 (tCons (tCall (spBands C S) [] C8.E0 (tCons (tVar 1) (tCons (tLst tNil) (tCons (tC (.ref fe)) tNil)))) tNil)) "form") { nx := fun _ H' => Q .non H', rt := Q } [some (.ref x), some (.ref l)] H1 := fun l H1 s1 hl => by
      refine ⟨_, rfl, l, bs, rfl, hl, by have := hf.2.2.2; omega, fun H2 s2 => ?_⟩
      refine ⟨_, rfl, Nat.zero_le _, fun p0 hp0 => ?_⟩
      have s3 : Same H2 (upd H2 p0 (.lst [])) := same_new hp0
      have hl3 := Blks.same' (s2.trans s3) hl
      refine ⟨l, p0, fe, bs, [], kOr, rfl, hl3, ⟨[], upd_same, .nil⟩, hS, by have := hf.2.2.2; omega, Nat.zero_le _, fun H4 p4 s4 hp4 hb => ?_⟩
      obtain ⟨a1, a2, a3, a4⟩ := fine_byK kOr hf (fine_nil rs cs hf.1 hf.2.1)
      refine ⟨p4, _, rfl, hb, a1, a2, a3, fun H5 p5 s5 hp5 hfm => ?_⟩
      have sall := s1.trans (s2.trans (s3.trans (s4.trans s5)))
      have hx5 := sall _ _ hx
      refine ⟨_, rfl, x, CA, dx, _, rfl, hx5, T.cl, T.nf, (by show 0 < 1000; decide), ?_⟩
      refine k _ p5 ((s1.trans (s2.trans (s3.trans s4))).free hp5) (fun b o hb e => by rw [upd_ne hb]; exact sall _ _ e) upd_same ?_
      exact Blks.same' del_upd (let ⟨vs, q1, q2⟩ := hfm; ⟨vs, by rw [del_ne (ne_of q1 hx5 fun z => nomatch z)]; exact q1, paired_imp (fun v b ⟨a, dx', z1, z2⟩ => ⟨a, dx', z1, by
        rw [del_ne fun e => ?_]
        · exact z2
        · rw [e, hx5] at z2
          have := (Option.some.inj z2)
          injection this with _ _ q
          exact bF_nn q.symm⟩) q2⟩)
    rcases hv with ⟨rfl, rfl⟩ | ⟨l, rfl, hl⟩
    · exact ⟨_, rfl, rfl, true, rfl, iteT ⟨Nat.zero_le _, fun p hp => main p _ (same_new hp) ⟨[], upd_same, .nil⟩⟩⟩
    · exact ⟨_, rfl, rfl, false, rfl, iteF (main l H (Same.refl _) hl)⟩
end
end CB
end
section
set_option maxHeartbeats 4000000
/-! the methods of Area -/
namespace CB
open PySem PySem.Spec PyProof.Rows L2 CBM
section
variable {P : Program} {w : World} {K : PySem.W.Frag} {mg : Str → Option Value} {base : Heap} {C CA : Addr}
theorem a_no {l : Addr} {m : Str} (h : (m == "form") = false) : ([("form", V.ref l)] : List (Str × V)).lookup m = none := by
  rw [List.lookup_cons, h]
  rfl
theorem a_form {l : Addr} : ([("form", V.ref l)] : List (Str × V)).lookup ("form" : Str) = some (.ref l) := rfl
abbrev sAEq : Stmt := inClass (top 41) 1
theorem scAEq : FnScope ["self", "other"] ["self", "other"] (defScope sAEq) := ⟨rfl, rfl, rfl, by decide +kernel, rfl, by decide +kernel, by decide +kernel⟩
def spAEq (C CA : Addr) : Sp := fun vs H Q _ => ∃ v u bs, vs = [v, u] ∧ AreaAt C CA H v bs ∧ AreaAt C CA H u bs ∧ ∀ H', Same H H' → Q (.bl true) H'
theorem monB : Mon (DIns C (SameB C)) := mon_ins fun a b H H' e ⟨z, h1, h2⟩ => ⟨z, BlkAt.same e h1, BlkAt.same e h2⟩
theorem prs_of {H : Hp} {xs ys : List V} {bs : List Blk} (h : Paired (BlkAt C H) xs bs) (h' : Paired (BlkAt C H) ys bs) : Prs (DIns C (SameB C)) xs ys H := by
  refine ⟨by rw [Paired.length h, Paired.length h'], fun i x y hx hy => ?_⟩
  obtain ⟨b, hb, r⟩ := paired_getI h hx
  obtain ⟨b', hb', r'⟩ := paired_getI h' hy
  rw [hb] at hb'
  cases hb'
  obtain ⟨a, dx, rfl, ha⟩ := id r
  obtain ⟨a', dx', rfl, ha'⟩ := id r'
  exact ⟨a, a', dx, dx', _, _, rfl, rfl, ha, ha', b, r, r'⟩
theorem fn_aeq {f fb : Addr} {fd fdb : FuncData} (F : FnD K "__eq__" "Area.__eq__" sAEq [] f fd) (B : Bi mg) (T : AK K mg CA) (Fb : FnD K "__eq__" "Block.__eq__" sBEq [] fb fdb) (Tb : BK K mg C) (mb : Meth K C "__eq__" fb) : FnOk P w K mg base C8.CX0 3 f fd ["self", "other"] (spAEq C CA) := by
  have Gb : FnOk P w K mg base C8.CX0 1 fb fdb ["self", "other"] (spEq (SameB C)) := ok_beq Fb Tb B
  have bb : Binds K fdb ["self", "other"] [] := Fb.bindsN fun _ _ _ _ _ _ us hl => match us, hl with | [_, _], _ => rfl
  refine F.ok scAEq (fun vs H Q E h => ?_) (fun cdv A outer s H vs Q E hr h => ?_)
  · obtain ⟨v, u, bs, rfl, _⟩ := h
    rfl
  · obtain ⟨v, u, bs, rfl, ⟨a, dx, l, rfl, ha, xs, hl, hp⟩, ⟨a', dx', l', rfl, ha', xs', hl', hp'⟩, k⟩ := h
    refine ⟨_, PSs.nox (pss_one (ps_ret (pe_and (bIsi B rfl (pa_cons (pv 1) (pa_cons (C8.pe_gc (v := .ref CA) rfl ⟨_, T.mg, rfl⟩) pa_nil))) (pe_one (pe_cmpR (op_eqG (rcG_list monB (eqG_ins (E := C8.E0) Gb mb.at_ mb.fn bb C8.pass0)) hr) (pe_fld (pv 0) rfl) (pe_fld (pv 1) rfl) (nomark _)))))), ?_⟩
    refine ⟨_, rfl, _, _, _, _, true, rfl, .own CA, isi_own T.ins ha', T.ins.me, true, rfl, iteT ?_⟩
    exact ⟨_, rfl, a, CA, dx, _, _, rfl, ha, T.cl, T.nf, a_form, _, rfl, a', CA, dx', _, _, rfl, ha', T.cl, T.nf, a_form, ⟨l, l', xs, xs', rfl, rfl, hl, hl', prs_of hp hp'⟩, fun H' e => k H' e⟩
abbrev sALen : Stmt := inClass (top 41) 2
theorem scALen : FnScope ["self"] ["self"] (defScope sALen) := ⟨rfl, rfl, rfl, by decide +kernel, rfl, by decide +kernel, by decide +kernel⟩
def spALen (C CA : Addr) : Sp := fun vs H Q _ => ∃ v bs, vs = [v] ∧ AreaAt C CA H v bs ∧ Q (.int bs.length) H
theorem fn_alen {f : Addr} {fd : FuncData} (F : FnD K "__len__" "Area.__len__" sALen [] f fd) (B : Bi mg) (T : AK K mg CA) : FnOk P w K mg base C8.CX0 1 f fd ["self"] (spALen C CA) := by
  refine F.ok scALen (fun vs H Q E h => ?_) (fun cdv A outer s H vs Q E hr h => ?_)
  · obtain ⟨v, bs, rfl, _⟩ := h
    rfl
  · obtain ⟨v, bs, rfl, ⟨a, dx, l, rfl, ha, xs, hl, hp⟩, k⟩ := h
    refine ⟨_, PSs.nox (pss_one (ps_ret (pe_callB call_len rfl B.len PySem.boot_len (pa_cons (pe_fld (pv 0) rfl) pa_nil)))), ?_⟩
    refine ⟨_, rfl, a, CA, dx, _, _, rfl, ha, T.cl, T.nf, a_form, _, xs.length, rfl, Or.inl ⟨_, sql hl, rfl⟩, ?_⟩
    rw [Paired.length hp]
    exact k
abbrev sABlocks : Stmt := inClass (top 41) 5
theorem scABlocks : FnScope ["self"] ["self"] (defScope sABlocks) := ⟨rfl, rfl, rfl, by decide +kernel, rfl, by decide +kernel, by decide +kernel⟩
def spABlocks (C CA : Addr) : Sp := fun vs H Q _ => ∃ v bs, vs = [v] ∧ AreaAt C CA H v bs ∧ ∀ H' p, Same H H' → H p = none → Blks C H' p bs → Q (.ref p) H'
theorem ok_ablocks {f : Addr} {fd : FuncData} (F : FnD K "blocks" "Area.blocks" sABlocks [] f fd) (me : Meth K CA "blocks" f) (B : Bi mg) (T : AK K mg CA) : C8.Met P w K mg base 1 CA "blocks" (spABlocks C CA) [] := by
  refine metD T.cl me F (F.bindsN fun _ _ _ _ _ _ us hl => match us, hl with | [_], _ => rfl) .nil scABlocks (fun vs H Q E h => ?_) (fun cdv A outer s H vs Q E hr h => ?_)
  · obtain ⟨v, bs, rfl, _⟩ := h
    rfl
  · obtain ⟨v, bs, rfl, ⟨a, dx, l, rfl, ha, xs, hl, hp⟩, k⟩ := h
    refine ⟨_, pss_one (ps_ret (pe_callTy call_list_of rfl B.list (by decide +kernel) (pa_cons (pe_fld (pv 0) rfl) pa_nil))), ?_⟩
    exact ⟨_, rfl, a, CA, dx, _, _, rfl, ha, T.cl, T.nf, a_form, l, xs, rfl, .inl (sql hl), fun p hp2 => k _ p (same_new hp2) hp2 ⟨xs, upd_same, paired_imp (fun _ _ z => BlkAt.same (same_new hp2) z) hp⟩⟩
abbrev sAHas : Stmt := inClass (top 41) 7
theorem scAHas : FnScope ["self", "cell", "block"] ["self", "cell"] (defScope sAHas) := ⟨rfl, rfl, rfl, by decide +kernel, rfl, by decide +kernel, by decide +kernel⟩
def hasB (bs : List Blk) (n c : Int) : Bool := bs.any fun b => inB b n c
def spAHas (C CA : Addr) : Sp := fun vs H Q _ => ∃ v u bs n c, vs = [v, u] ∧ AreaAt C CA H v bs ∧ bs.length ≤ 600 ∧ CellAt H u n c ∧ ∀ H', Same H H' → Q (.bl (hasB bs n c)) H'
theorem ok_ahas {f : Addr} {fd : FuncData} (F : FnD K "has" "Area.has" sAHas [] f fd) (me : Meth K CA "has" f) (B : Bi mg) (T : AK K mg CA) (Tb : BK K mg C) (c1 : C8.Cal P w K mg base 4 "checked_cell" spChkCell []) (c2 : C8.Met P w K mg base 5 C "has" (spBHas C) []) : C8.Met P w K mg base 6 CA "has" (spAHas C CA) [] := by
  refine metD T.cl me F (F.bindsN fun _ _ _ _ _ _ us hl => match us, hl with | [_, _], _ => rfl) .nil scAHas (fun vs H Q E h => ?_) (fun cdv A outer s H vs Q E hr h => ?_)
  · obtain ⟨v, u, bs, n, c, rfl, _⟩ := h
    rfl
  · obtain ⟨v, u, bs, n, c, rfl, ⟨a, dx, l, rfl, ha, xs, hl, hp⟩, hz, hc, k⟩ := h
    refine ⟨_, pss_cons (ps_expr (C8.pe_c c1 hr (by decide) rfl (pa_cons (pv 1) pa_nil)))
      (pss_one (ps_ret (pe_callB (cr_any rfl) rfl B.any (by decide +kernel) (pa_cons (pe_lc (own := [("block", 2)]) (g := gName 2) (tt := tYes) rfl scAHas.nd (pi_list (pe_fld (pv 0) rfl)) (blkOk_by (N := ["self", "cell", "block"]) (sc := defScope sAHas) (by decide +kernel))
        (fun _ _ _ _ _ => pg_name (i := 2) scAHas.nd rfl (Or.inl rfl)) (fun _ _ _ _ _ => pts_nil) (fun _ _ _ _ _ => C8.pe_mt c2 hr (by decide) (pv 2) (pa_cons (pv 1) pa_nil))) pa_nil)))), ?_⟩
    refine ⟨_, rfl, u, n, c, rfl, hc, fun H1 s1 => ?_⟩
    refine ⟨_, rfl, a, CA, dx, _, _, rfl, s1 _ _ ha, T.cl, T.nf, a_form, l, rfl, ⟨_, sql (s1 _ _ hl)⟩, fun D hD => lc_gen (R := BlkAt C) (R' := BlV) (keep := fun _ => true) (f := fun b : Blk => inB b n c) hD (sql (s1 _ _ hl)) (paired_imp (fun _ _ z => BlkAt.same s1 z) hp) (by omega) (fun s h => BlkAt.same s h) (fun _ h => h) (fun _ h => h) ?_ ?_⟩
    · rintro x m H2 _ hx s2 QT QF h1 h2
      obtain ⟨y, dy, rfl, hy⟩ := id hx
      exact ⟨rfl, iteT (B := QF H2) ⟨_, rfl, y, dy, _, rfl, hy, bF_none (by decide +kernel) (by decide +kernel) (by decide +kernel) (by decide +kernel), _, rfl, _, _, m, n, c, rfl, hx, hc.same (s1.trans s2), fun H' s' => h1 rfl _ H' s' rfl⟩⟩
    · intro H2 s2 hL
      rw [filtT] at hL
      refine ⟨D, _, rfl, sql (lst_bls hL), ?_⟩
      have e : (bs.map fun b => inB b n c).any id = hasB bs n c := by
        unfold hasB
        rw [List.any_map]
        rfl
      rw [e]
      exact k H2 (s1.trans s2)
abbrev sASize : Stmt := inClass (top 41) 8
theorem scASize : FnScope ["self", "sizes", "block"] ["self"] (defScope sASize) := ⟨rfl, rfl, rfl, by decide +kernel, rfl, by decide +kernel, by decide +kernel⟩
/-- a block with both ends, not too wide -/
def Small (b : Blk) : Prop := ∃ m q, b.b = some m ∧ b.r = some q ∧ -(2 ^ 64) < q - b.l + 1 ∧ q - b.l + 1 < 2 ^ 64
def spASize (C CA : Addr) : Sp := fun vs H Q _ => ∃ v bs, vs = [v] ∧ AreaAt C CA H v bs ∧ bs.length ≤ 600 ∧ (∀ b ∈ bs, Small b) ∧ ∀ H', Same H H' → Q (.int ((bs.map fun b => (sizeB b).getD 0).sum)) H'
theorem inV_ints (ns : List Int) : inV .non (ns.map V.int) = false := by
  unfold inV
  rw [List.any_map]
  induction ns with
  | nil => rfl
  | cons n ns ih => rw [List.any_cons, ih]; rfl
theorem flat_ints (ns : List Int) : (ns.map V.int).all flatV = true := by
  rw [List.all_map]
  induction ns with
  | nil => rfl
  | cons n ns ih => rw [List.all_cons, ih]; rfl
theorem ok_asize {f : Addr} {fd : FuncData} (F : FnD K "size" "Area.size" sASize [] f fd) (me : Meth K CA "size" f) (B : Bi mg) (T : AK K mg CA) (c2 : C8.Met P w K mg base 1 C "size" (spBSize C) []) : C8.Met P w K mg base 2 CA "size" (spASize C CA) [] := by
  refine metD T.cl me F (F.bindsN fun _ _ _ _ _ _ us hl => match us, hl with | [_], _ => rfl) .nil scASize (fun vs H Q E h => ?_) (fun cdv A outer s H vs Q E hr h => ?_)
  · obtain ⟨v, bs, rfl, _⟩ := h
    rfl
  · obtain ⟨v, bs, rfl, ⟨a, dx, l, rfl, ha, xs, hl, hp⟩, hz, hsm, k⟩ := h
    refine ⟨_, pss_cons (ps_setLc (i := 1) (own := [("block", 2)]) (g := gName 2) (tt := tYes) rfl scASize.nd rfl rfl (sw_true rfl rfl rfl (by decide +kernel)) (pi_list (pe_fld (pv 0) rfl)) (blkOk_by (N := ["self", "sizes", "block"]) (sc := defScope sASize) (by decide +kernel))
        (fun _ _ _ _ _ => pg_name (i := 2) scASize.nd rfl (Or.inl rfl)) (fun _ _ _ _ _ => pts_nil) (fun _ _ _ _ _ => C8.pe_mt0 c2 hr (by decide) (pv 2)))
      (pss_cons (ps_if (pt_cmpR op_in_seq pe_non (pv 1) (by rfl)) (pss_one (ps_ret pe_non)) pss_nil)
      (pss_one (ps_ret (pe_callB (cr_sum rfl) rfl B.sum (by decide +kernel) (pa_cons (pv 1) pa_nil))))), ?_⟩
    refine ⟨_, rfl, a, CA, dx, _, _, rfl, ha, T.cl, T.nf, a_form, l, rfl, ⟨_, sql hl⟩, fun D hD => lc_gen (R := BlkAt C) (R' := IntV) (keep := fun _ => true) (f := fun b : Blk => (sizeB b).getD 0) hD (sql hl) hp (by omega) (fun s h => BlkAt.same s h) (fun _ h => h) (fun _ h => h) ?_ ?_⟩
    · rintro x b H2 hb hx s2 QT QF h1 h2
      obtain ⟨y, dy, rfl, hy⟩ := id hx
      obtain ⟨m, q, hm, hq, z1, z2⟩ := hsm b hb
      exact ⟨rfl, iteT (B := QF H2) ⟨_, rfl, y, dy, _, rfl, hy, bF_none (by decide +kernel) (by decide +kernel) (by decide +kernel) (by decide +kernel), _, b, m, q, rfl, hx, hm, hq, z1, z2, h1 rfl _ H2 (Same.refl _) (by show V.int _ = V.int ((sizeB b).getD 0); unfold sizeB; rw [hm, hq]; rfl)⟩⟩
    · intro H2 s2 hL
      rw [filtT] at hL
      have e := lst_ints hL
      refine ⟨_, rfl, D, _, rfl, .inl (sql e), rfl, flat_ints _, false, by rw [if_neg (by decide), inV_ints], iteF ?_⟩
      exact ⟨_, rfl, D, _, rfl, sql e, k H2 s2⟩
/-! ### areas by others -/
theorem aInit_at {H H' : Hp} {x dx l : Addr} {bs : List Blk} (h : H' x = some (.ins CA dx [("form", .ref l)])) (hb : Blks C H' l bs) : AreaAt C CA H' (.ref x) bs := ⟨x, dx, l, rfl, h, hb⟩
/-- an instance made, then filled: what stood before stands -/
theorem mk_keep {H H' : Hp} {x dx : Addr} {fs : List (Str × V)} (hx : H x = none) (hdx : H dx = none) (k : ∀ b o, b ≠ x → (upd (upd H dx (.own x)) x (.ins CA dx fs)) b = some o → H' b = some o) : Same H H' := fun b o e => by
  have hb := ne_of_none e hx
  refine k b o hb ?_
  rw [upd_ne hb, upd_ne (ne_of_none e hdx)]
  exact e
theorem blks_mk {H : Hp} {x dx l : Addr} {bs : List Blk} {fs : List (Str × V)} (hx : H x = none) (hdx : H dx = none) (h : Blks C H l bs) : Blks C (upd (upd H dx (.own x)) x (.ins CA dx fs)) l bs := Blks.same' (fun b o e => by rw [upd_ne (ne_of_none e hx), upd_ne (ne_of_none e hdx)]; exact e) h
abbrev sABy : Stmt := inClass (top 41) 9
theorem scABy : FnScope ["self", "other", "keeps"] ["self", "other", "keeps"] (defScope sABy) := ⟨rfl, rfl, rfl, by decide +kernel, rfl, by decide +kernel, by decide +kernel⟩
def spABy (C CA : Addr) (S : Addr → Option Sp) : Sp := fun vs H Q _ => ∃ v u f one other k rs cs, vs = [v, u, .ref f] ∧ AreaAt C CA H v one ∧ AreaAt C CA H u other ∧ S f = some (spKeep k) ∧ Fine rs cs one ∧ Fine rs cs other ∧ ∀ H' z, Same H H' → AreaF C CA H H' z (areaOf (byK one other k)) → Q z H'
theorem ok_aby {f : Addr} {fd : FuncData} {S : Addr → Option Sp} (F : FnD K "by" "Area.by" sABy [] f fd) (me : Meth K CA "by" f) (T : AK K mg CA) (cC : C8.Cal P w K mg base 1 "checked_area" (spChkA CA) [])
    (cA : C8.Mak P w K mg base 7 "Area" CA (spAInit C CA) []) (c2 : C8.Cal P w K mg base 4 "bands_by" (spBands C S) []) (c3 : C8.Cal P w K mg base 6 "form_of" (spForm C) []) : C8.Met P w K mg base 9 CA "by" (spABy C CA S) [] := by
  refine metD T.cl me F (F.bindsN fun _ _ _ _ _ _ us hl => match us, hl with | [_, _, _], _ => rfl) .nil scABy (fun vs H Q E h => ?_) (fun cdv A outer s H vs Q E hr h => ?_)
  · obtain ⟨v, u, f, one, other, k, rs, cs, rfl, _⟩ := h
    rfl
  · obtain ⟨v, u, fk, one, other, kp, rs, cs, rfl, ⟨a, dx, l, rfl, ha, hl⟩, ⟨a', dx', l', rfl, ha', hl'⟩, hS, hf, hf', k⟩ := h
    refine ⟨_, pss_cons (ps_expr (C8.pe_c cC hr (by decide) rfl (pa_cons (pv 1) pa_nil)))
      (pss_one (ps_ret (C8.pe_mk cA hr (by decide) rfl (pa_cons (C8.pe_c c3 hr (by decide) rfl (pa_cons (C8.pe_c c2 hr (by decide) rfl (pa_cons (pe_fld (pv 0) rfl) (pa_cons (pe_fld (pv 1) rfl) (pa_cons (pv 2) pa_nil)))) pa_nil)) pa_nil)))), ?_⟩
    refine ⟨_, rfl, a', dx', _, rfl, ha', ?_⟩
    refine ⟨_, rfl, a, CA, dx, _, _, rfl, ha, T.cl, T.nf, a_form, _, rfl, a', CA, dx', _, _, rfl, ha', T.cl, T.nf, a_form, _, rfl, l, l', fk, one, other, kp, rfl, hl, hl', hS, by have := hf.2.2.2; omega, by have := hf'.2.2.2; omega, fun H1 p1 s1 hp1 hb => ?_⟩
    obtain ⟨a1, a2, a3, a4⟩ := fine_byK kp hf hf'
    refine ⟨p1, _, rfl, hb, a1, a2, a3, fun H2 p2 s2 hp2 hfm => ?_⟩
    refine fun x dy hx hdy hne => ⟨x, dy, .ref p2, _, rs, cs, rfl, upd_same, .inr ⟨p2, rfl, blks_mk hx hdy hfm⟩, a4, fun H3 l3 nl3 keep hx3 hb3 => ⟨rfl, ?_⟩⟩
    exact k H3 (.ref x) ((s1.trans s2).trans (mk_keep hx hdy keep)) ⟨x, dy, l3, rfl, hx3, hb3, (s1.trans s2).free (by
      cases e : H2 l3 with
      | none => rfl
      | some o => rw [show (upd (upd H2 dy (.own x)) x (.ins CA dy [])) l3 = some o from by rw [upd_ne (ne_of_none e hx), upd_ne (ne_of_none e hdy)]; exact e] at nl3; cases nl3)⟩
abbrev sAMet : Stmt := inClass (top 41) 10
abbrev sAJoined : Stmt := inClass (top 41) 11
abbrev sAWithout : Stmt := inClass (top 41) 12
theorem scAMet : FnScope ["self", "other"] ["self", "other"] (defScope sAMet) := ⟨rfl, rfl, rfl, by decide +kernel, rfl, by decide +kernel, by decide +kernel⟩
theorem scAJoined : FnScope ["self", "other"] ["self", "other"] (defScope sAJoined) := ⟨rfl, rfl, rfl, by decide +kernel, rfl, by decide +kernel, by decide +kernel⟩
theorem scAWithout : FnScope ["self", "other"] ["self", "other"] (defScope sAWithout) := ⟨rfl, rfl, rfl, by decide +kernel, rfl, by decide +kernel, by decide +kernel⟩
def spAK (C CA : Addr) (k : Bool → Bool → Bool) : Sp := fun vs H Q _ => ∃ v u one other rs cs, vs = [v, u] ∧ AreaAt C CA H v one ∧ AreaAt C CA H u other ∧ Fine rs cs one ∧ Fine rs cs other ∧ ∀ H' z, Same H H' → AreaF C CA H H' z (areaOf (byK one other k)) → Q z H'
theorem ok_amet {f fk : Addr} {fd : FuncData} {S : Addr → Option Sp} (F : FnD K "met" "Area.met" sAMet [] f fd) (me : Meth K CA "met" f) (T : AK K mg CA) (gk : mg "both" = some (.ref fk)) (hS : S fk = some (spKeep kAnd)) (cB : C8.Met P w K mg base 9 CA "by" (spABy C CA S) []) : C8.Met P w K mg base 10 CA "met" (spAK C CA kAnd) [] := by
  refine metD T.cl me F (F.bindsN fun _ _ _ _ _ _ us hl => match us, hl with | [_, _], _ => rfl) .nil scAMet (fun vs H Q E h => ?_) (fun cdv A outer s H vs Q E hr h => ?_)
  · obtain ⟨v, u, one, other, rs, cs, rfl, _⟩ := h
    rfl
  · obtain ⟨v, u, one, other, rs, cs, rfl, hv, hu, hf, hf', k⟩ := h
    obtain ⟨a, dx, l, rfl, ha, hl⟩ := id hv
    refine ⟨_, pss_one (ps_ret (C8.pe_mt cB hr (by decide) (pv 0) (pa_cons (pv 1) (pa_cons (C8.pe_gc (v := .ref fk) rfl ⟨_, gk, rfl⟩) pa_nil)))), ?_⟩
    exact ⟨_, rfl, a, dx, _, rfl, ha, a_no (by decide +kernel), _, rfl, _, _, fk, one, other, kAnd, rs, cs, rfl, hv, hu, hS, hf, hf', k⟩
theorem ok_ajoined {f fk : Addr} {fd : FuncData} {S : Addr → Option Sp} (F : FnD K "joined" "Area.joined" sAJoined [] f fd) (me : Meth K CA "joined" f) (T : AK K mg CA) (gk : mg "either" = some (.ref fk)) (hS : S fk = some (spKeep kOr)) (cB : C8.Met P w K mg base 9 CA "by" (spABy C CA S) []) : C8.Met P w K mg base 10 CA "joined" (spAK C CA kOr) [] := by
  refine metD T.cl me F (F.bindsN fun _ _ _ _ _ _ us hl => match us, hl with | [_, _], _ => rfl) .nil scAJoined (fun vs H Q E h => ?_) (fun cdv A outer s H vs Q E hr h => ?_)
  · obtain ⟨v, u, one, other, rs, cs, rfl, _⟩ := h
    rfl
  · obtain ⟨v, u, one, other, rs, cs, rfl, hv, hu, hf, hf', k⟩ := h
    obtain ⟨a, dx, l, rfl, ha, hl⟩ := id hv
    refine ⟨_, pss_one (ps_ret (C8.pe_mt cB hr (by decide) (pv 0) (pa_cons (pv 1) (pa_cons (C8.pe_gc (v := .ref fk) rfl ⟨_, gk, rfl⟩) pa_nil)))), ?_⟩
    exact ⟨_, rfl, a, dx, _, rfl, ha, a_no (by decide +kernel), _, rfl, _, _, fk, one, other, kOr, rs, cs, rfl, hv, hu, hS, hf, hf', k⟩
theorem ok_awithout {f fk : Addr} {fd : FuncData} {S : Addr → Option Sp} (F : FnD K "without" "Area.without" sAWithout [] f fd) (me : Meth K CA "without" f) (T : AK K mg CA) (gk : mg "one_alone" = some (.ref fk)) (hS : S fk = some (spKeep kSub)) (cB : C8.Met P w K mg base 9 CA "by" (spABy C CA S) []) : C8.Met P w K mg base 10 CA "without" (spAK C CA kSub) [] := by
  refine metD T.cl me F (F.bindsN fun _ _ _ _ _ _ us hl => match us, hl with | [_, _], _ => rfl) .nil scAWithout (fun vs H Q E h => ?_) (fun cdv A outer s H vs Q E hr h => ?_)
  · obtain ⟨v, u, one, other, rs, cs, rfl, _⟩ := h
    rfl
  · obtain ⟨v, u, one, other, rs, cs, rfl, hv, hu, hf, hf', k⟩ := h
    obtain ⟨a, dx, l, rfl, ha, hl⟩ := id hv
    refine ⟨_, pss_one (ps_ret (C8.pe_mt cB hr (by decide) (pv 0) (pa_cons (pv 1) (pa_cons (C8.pe_gc (v := .ref fk) rfl ⟨_, gk, rfl⟩) pa_nil)))), ?_⟩
    exact ⟨_, rfl, a, dx, _, rfl, ha, a_no (by decide +kernel), _, rfl, _, _, fk, one, other, kSub, rs, cs, rfl, hv, hu, hS, hf, hf', k⟩
end
end CB
end
section
set_option maxHeartbeats 4000000
/-! values, the class Sheet: __init__, hold, fill -/
namespace CB
open PySem PySem.Spec PyProof.Rows L2 CBM
abbrev sgs : Str := Str.ofString "abcdefghijklmnopqrstuvwxyz0123456789 "
def ValOk (z : Str) : Prop := z.length ≤ 40 ∧ ∀ c ∈ z.cps.toList, c ∈ sgs.cps.toList
structure SK (K : PySem.W.Frag) (mg : Str → Option Value) (C : Addr) : Prop where
  cl : Cls K C
  nh : NoAttr K C "held"
  mg : mg "Sheet" = some (.ref C)
  kp : PySem.W.keepIn K (.ref C) = true
  ins : C8.InsC K C
structure Cst (mg : Str → Option Value) : Prop where
  signs : ∃ u, mg "SIGNS" = some u ∧ RelV (.str sgs) u
  most : ∃ u, mg "MOST" = some u ∧ RelV (.int 40) u
def ChR (_ : Hp) (v : V) (c : Nat) : Prop := v = .str ⟨#[c]⟩
section
variable {P : Program} {w : World} {K : PySem.W.Frag} {mg : Str → Option Value} {base : Heap} {C CA CS : Addr}
abbrev sChkV : Stmt := top 45
theorem scChkV : FnScope ["thing", "sign"] ["thing"] (defScope sChkV) := ⟨rfl, rfl, rfl, by decide +kernel, rfl, by decide +kernel, by decide +kernel⟩
def spChkV : Sp := fun vs H Q _ => ∃ z : Str, vs = [.str z] ∧ ValOk z ∧ ∀ H', Same H H' → Q .non H'
theorem ok_chkv {f : Addr} {fd : FuncData} (F : FnD K "check_value" "check_value" sChkV [] f fd) (g : mg "check_value" = some (.ref f)) (B : Bi mg) (T : Cst mg) : C8.Cal P w K mg base 1 "check_value" spChkV [] := by
  refine calD F g (F.bindsN fun _ _ _ _ _ _ us hl => match us, hl with | [_], _ => rfl) .nil scChkV (fun vs H Q E h => ?_) (fun cdv A outer s H vs Q E hr h => ?_)
  · obtain ⟨z, rfl, _⟩ := h
    rfl
  · obtain ⟨z, rfl, ⟨hz, hs⟩, k⟩ := h
    refine ⟨_, pss_one (ps_if (PW.pt (pw_or (pt_not (pt_val (bIsi B rfl (pa_cons (pv 0) (pa_cons (bt "str" "str" rfl B.str (by decide +kernel)) pa_nil)))))
      (pw_or (pt_cmpR op_gt (pe_callB call_len rfl B.len PySem.boot_len (pa_cons (pv 0) pa_nil)) (C8.pe_gc (v := .int 40) rfl T.most) (nomark _))
      (pw_or1 (pt_not (pt_val (pe_callB (cr_all rfl) rfl B.all (by decide +kernel) (pa_cons (pe_lc (own := [("sign", 1)]) (g := gName 1) (tt := tYes) rfl scChkV.nd (pi_str (pv 0)) (blkOk_by (N := ["thing", "sign"]) (sc := defScope sChkV) (by decide +kernel))
        (fun _ _ _ _ _ => pg_name (i := 1) scChkV.nd rfl (Or.inl rfl)) (fun _ _ _ _ _ => pts_nil) (fun _ _ _ _ _ => pe_cmpR op_in_sign (pv 1) (C8.pe_gc (v := .str sgs) rfl T.signs) rfl)) pa_nil)))))))) (pss_one ps_never) pss_nil), ?_⟩
    have hzl : z.length = z.cps.toList.length := by rw [Array.length_toList]; rfl
    refine ⟨_, rfl, _, _, _, _, true, rfl, .ty "str", .base (.str z), kit_ty (by decide +kernel), true, rfl, iteF ?_⟩
    refine ⟨_, rfl, _, z.length, rfl, ⟨sz_le (by omega), rfl⟩, _, _, rfl, rfl, false, ?_, iteF ?_⟩
    · have : ¬ ((z.length : Int) > 40) := by omega
      exact congrArg V.bl (decide_eq_false this)
    refine ⟨_, rfl, z, rfl, fun D hD => lc_genW (J := Its z) (ms := z.cps.toList) (R := ChR) (R' := BlV) (keep := fun _ => true) (f := fun _ => true) (G := fun _ => True) (Array.length_toList ▸ walk_str) hD (fun _ _ => trivial) (fun i x H1 H2 m hm s1 y => ?_) (by omega) (fun _ h => h) (fun _ h => h) ?_ ?_⟩
    · obtain ⟨rfl, c, hc, rfl⟩ := y
      rw [Array.getElem?_toList, hc] at hm
      cases hm
      exact ⟨Same.refl _, rfl⟩
    · rintro x c H1 hc rfl s1 QT QF h1 h2
      refine ⟨rfl, iteT (B := QF H1) ⟨_, rfl, c, sgs, rfl, rfl, ?_⟩⟩
      rw [decide_eq_true (hs c hc)]
      exact h1 rfl _ H1 (Same.refl _) rfl
    · intro H1 s1 hL
      refine ⟨D, _, rfl, sql (lst_bls hL), ?_⟩
      have e : ((z.cps.toList.filter fun _ => true).map fun _ => true).all id = true := by
        rw [List.all_eq_true]
        intro b hb
        obtain ⟨_, _, rfl⟩ := List.mem_map.mp hb
        rfl
      rw [e]
      exact ⟨true, rfl, iteF (k H1 s1)⟩
abbrev sChkS : Stmt := top 46
theorem scChkS : FnScope ["thing"] ["thing"] (defScope sChkS) := ⟨rfl, rfl, rfl, by decide +kernel, rfl, by decide +kernel, by decide +kernel⟩
theorem ok_chks {f : Addr} {fd : FuncData} (F : FnD K "check_sheet" "check_sheet" sChkS [] f fd) (g : mg "check_sheet" = some (.ref f)) (B : Bi mg) (T : SK K mg CS) : C8.Cal P w K mg base 1 "check_sheet" (spChkA CS) [] := by
  refine calD F g (F.bindsN fun _ _ _ _ _ _ us hl => match us, hl with | [_], _ => rfl) .nil scChkS (fun vs H Q E h => ?_) (fun cdv A outer s H vs Q E hr h => ?_)
  · obtain ⟨a, dx, fs, rfl, _⟩ := h
    rfl
  · obtain ⟨a, dx, fs, rfl, ha, k⟩ := h
    refine ⟨_, pss_one (ps_if (pt_not (pt_val (bIsi B rfl (pa_cons (pv 0) (pa_cons (C8.pe_gc (v := .ref CS) rfl ⟨_, T.mg, rfl⟩) pa_nil))))) (pss_one ps_never) pss_nil), ?_⟩
    exact ⟨_, rfl, _, _, _, _, true, rfl, .own CS, isi_own T.ins ha, T.ins.me, true, rfl, iteF k⟩
/-- a part: a tuple of a block and a value -/
def PartAt (C : Addr) (H : Hp) (v : V) (p : Blk × Str) : Prop := ∃ a u, v = .ref a ∧ H a = some (.tup [u, .str p.2]) ∧ BlkAt C H u p.1
theorem PartAt.same {C : Addr} {H H' : Hp} {v : V} {p : Blk × Str} (e : Same H H') (h : PartAt C H v p) : PartAt C H' v p := let ⟨a, u, h1, h2, h3⟩ := h; ⟨a, u, h1, e _ _ h2, h3.same e⟩
end
/-! ### heaps without an object that is no list, no instance -/
def plainHO : HO → Bool
  | .lst _ => false
  | .ins _ _ _ => false
  | _ => true
section
variable {C CA CS : Addr} {H : Hp} {d l : Addr} {o : HO} {bs : List Blk} {v : V}
theorem pl_lst (ho : plainHO o = true) (xs : List V) : HO.lst xs ≠ o := fun z => by
  subst z
  cases ho
theorem pl_ins (ho : plainHO o = true) (C dx : Addr) (fs : List (Str × V)) : HO.ins C dx fs ≠ o := fun z => by
  subst z
  cases ho
theorem blks_delP (hd : H d = some o) (ho : plainHO o = true) (h : Blks C H l bs) : Blks C (delH' H d) l bs := by
  obtain ⟨vs, h1, h2⟩ := h
  exact ⟨vs, by rw [del_ne (ne_of h1 hd (pl_lst ho _))]; exact h1, paired_imp (fun _ _ z => blk_delX hd (fun _ _ _ e => pl_ins ho _ _ _ e.symm) z) h2⟩
theorem area_delP (hd : H d = some o) (ho : plainHO o = true) (h : AreaAt C CA H v bs) : AreaAt C CA (delH' H d) v bs := by
  obtain ⟨a, dx, l, h1, h2, h3⟩ := h
  exact ⟨a, dx, l, h1, by rw [del_ne (ne_of h2 hd (pl_ins ho _ _ _))]; exact h2, blks_delP hd ho h3⟩
/-- an entry of a sheet's dict -/
def EntR (C CA : Addr) (H : Hp) (kv : Key × V) (p : Txt × List Blk) : Prop := kv.1 = .inr p.1 ∧ AreaAt C CA H kv.2 p.2
theorem EntR.same {H' : Hp} {kv : Key × V} {p : Txt × List Blk} (e : Same H H') (h : EntR C CA H kv p) : EntR C CA H' kv p := ⟨h.1, h.2.same e⟩
theorem ent_delP {kv : Key × V} {p : Txt × List Blk} (hd : H d = some o) (ho : plainHO o = true) (h : EntR C CA H kv p) : EntR C CA (delH' H d) kv p := ⟨h.1, area_delP hd ho h.2⟩
/-- the dict of a sheet -/
def DictAt (C CA : Addr) (H : Hp) (d : Addr) (h : Held) : Prop := ∃ kvs, H d = some (.dK kvs) ∧ Paired (EntR C CA H) kvs h
theorem DictAt.same {H' : Hp} {h : Held} (e : Same H H') (x : DictAt C CA H d h) : DictAt C CA H' d h := let ⟨kvs, h1, h2⟩ := x; ⟨kvs, e _ _ h1, paired_imp (fun _ _ => EntR.same e) h2⟩
/-- the sheet at v -/
def SheetAt (C CA CS : Addr) (H : Hp) (v : V) (h : Held) : Prop := ∃ a dx d, v = .ref a ∧ H a = some (.ins CS dx [("held", .ref d)]) ∧ DictAt C CA H d h
theorem SheetAt.same {H' : Hp} {h : Held} (e : Same H H') (x : SheetAt C CA CS H v h) : SheetAt C CA CS H' v h := let ⟨a, dx, d, h1, h2, h3⟩ := x; ⟨a, dx, d, h1, e _ _ h2, h3.same e⟩
theorem ent_getH {kvs : List (Key × V)} {h : Held} (p : Paired (EntR C CA H) kvs h) (v : Txt) : match valV kvs (Sum.inr v : Key), getH h v with
    | some u, some bs => AreaAt C CA H u bs
    | none, none => True
    | _, _ => False := by
  induction p with
  | nil => simp [valV, getH]
  | @cons kv q kvs h r t ih =>
    by_cases e : q.1 = v
    · have e2 : kv.1 = (Sum.inr v : Key) := by rw [r.1, e]
      have g1 : valV (kv :: kvs) (Sum.inr v : Key) = some kv.2 := by simp [valV, List.find?_cons, e2]
      have g2 : getH (q :: h) v = some q.2 := by simp [getH, List.find?_cons, e]
      rw [g1, g2]
      exact r.2
    · have e2 : ¬ kv.1 = (Sum.inr v : Key) := fun z => e (by rw [r.1] at z; exact Sum.inr.inj z)
      have g1 : valV (kv :: kvs) (Sum.inr v : Key) = valV kvs (Sum.inr v : Key) := by simp [valV, List.find?_cons, e2]
      have g2 : getH (q :: h) v = getH h v := by simp [getH, List.find?_cons, e]
      rw [g1, g2]
      exact ih
theorem ent_any {kvs : List (Key × V)} {h : Held} (p : Paired (EntR C CA H) kvs h) (v : Txt) : (kvs.any fun kv => decide (kv.1 = (Sum.inr v : Key))) = h.any fun q => decide (q.1 = v) := by
  induction p with
  | nil => rfl
  | @cons kv q kvs h r t ih =>
    rw [List.any_cons, List.any_cons, ih, r.1]
    by_cases e : q.1 = v <;> simp [e]
theorem ent_one {kv : Key × V} {q : Txt × List Blk} {v : Txt} {u : V} {bs : List Blk} (h : EntR C CA H kv q) (r : AreaAt C CA H u bs) : EntR C CA H (if kv.1 = (Sum.inr v : Key) then (kv.1, u) else kv) (if q.1 = v then (q.1, bs) else q) := by
  by_cases e : q.1 = v
  · rw [if_pos (by rw [h.1, e]), if_pos e]
    exact ⟨h.1, r⟩
  · rw [if_neg (fun z => e (by rw [h.1] at z; exact Sum.inr.inj z)), if_neg e]
    exact h
theorem ent_map {kvs : List (Key × V)} {h : Held} {v : Txt} {u : V} {bs : List Blk} (p : Paired (EntR C CA H) kvs h) (r : AreaAt C CA H u bs) : Paired (EntR C CA H) (kvs.map fun kv => if kv.1 = (Sum.inr v : Key) then (kv.1, u) else kv) (h.map fun p => if p.1 = v then (p.1, bs) else p) := by
  induction p with
  | nil => exact .nil
  | cons r' _ ih => exact .cons (ent_one r' r) ih
theorem ent_put {kvs : List (Key × V)} {h : Held} {v : Txt} {u : V} {bs : List Blk} (p : Paired (EntR C CA H) kvs h) (r : AreaAt C CA H u bs) : Paired (EntR C CA H) (putK kvs (Sum.inr v : Key) u) (putH h v bs) := by
  unfold putK putH
  rw [ent_any p v]
  by_cases e : (h.any fun q => decide (q.1 = v)) = true
  · rw [if_pos e, if_pos e]
    exact ent_map p r
  · rw [if_neg e, if_neg e]
    exact paired_snoc' p ⟨rfl, r⟩
/-- for over d.items(), d locked -/
theorem for_itemsG {α : Type} {E : Hp → Key × V → α → Prop} {H0 : Hp} {od : Obj} {kvs : List (Key × V)} {ms : List α} {g : TG} {tb : TS} {D : Ends} {σ : L2.St} (hd : H0 d = some (.frz od (.dK kvs))) (hR : Paired (E H0) kvs ms) (Pv : Nat → L2.St → Hp → Prop) (h0 : Pv 0 σ H) (hS : ∀ i σ H, Pv i σ H → Same H0 H)
    (hs : ∀ i kv m T σ H, i < ms.length → ms[i]? = some m → E H0 kv m → Pv i σ H → H T = none → g (.ref T) σ (upd H T (.tup [kV kv.1, kv.2])) fun σ2 H2 => tb { D with nx := Pv (i + 1), ct := Pv (i + 1), bk := D.nx } σ2 H2) (hd' : ∀ σ H, Pv ms.length σ H → D.nx σ H) :
    ∃ W : Nat → Nat → L2.St → Hp → Prop, (∃ m, W 0 m σ H) ∧ ∀ i m σ H, W i m σ H →
      ((Iti d od kvs).stop i H ∧ D.nx σ H) ∨ ((Iti d od kvs).go i H ∧ ∃ N : L2.St → Hp → Prop, (∀ σ' H', N σ' H' → ∃ m', m' < m ∧ W (i + 1) m' σ' H') ∧ ∀ x H', (Iti d od kvs).yld i H x H' → g x σ H' fun σ2 H2 => tb { D with nx := N, ct := N, bk := D.nx } σ2 H2) := by
  have hl : kvs.length = ms.length := Paired.length hR
  refine for_it walk_items Pv h0 (fun i σ H _ h => hS i σ H h _ _ hd) (fun i x σ H H' hi p y => ?_) (fun σ H p => hd' σ H (hl ▸ p))
  obtain ⟨T, x1, x2, rfl, hT, rfl, e1, e2⟩ := y
  have hi2 : kvs[i]? = some kvs[i] := List.getElem?_eq_getElem hi
  have e1' : kvs[i]?.map (fun kv => kV kv.1) = some x1 := e1
  have e2' : kvs[i]?.map Prod.snd = some x2 := e2
  rw [hi2] at e1' e2'
  obtain rfl := Option.some.inj e1'
  obtain rfl := Option.some.inj e2'
  obtain ⟨m, hm, r⟩ := paired_getI hR hi2
  exact hs i _ m T σ H (hl ▸ hi) hm r p hT
end
end CB
end
section
set_option maxHeartbeats 4000000
/-! Sheet: __init__, hold -/
namespace CB
open PySem PySem.Spec PyProof.Rows L2 CBM
theorem h_form {l : Addr} : ([("held", V.ref l)] : List (Str × V)).lookup ("held" : Str) = some (.ref l) := rfl
theorem h_no {l : Addr} {m : Str} (h : (m == "held") = false) : ([("held", V.ref l)] : List (Str × V)).lookup m = none := by
  rw [List.lookup_cons, h]
  rfl
theorem h_put {v : V} {u : V} : putF "held" v [("held", u)] = ([("held", v)] : List (Str × V)) := if_pos rfl
theorem fine_new : Fine [1] [1] [⟨1, 1, none, none⟩] := ⟨by decide, by decide, fun b hb => by
  obtain rfl := List.mem_singleton.mp hb
  exact ⟨⟨List.mem_singleton.mpr rfl, ⟨Int.le_refl _, trivial⟩, (fun _ e => nomatch e)⟩, ⟨List.mem_singleton.mpr rfl, ⟨Int.le_refl _, trivial⟩, (fun _ e => nomatch e)⟩⟩, by decide⟩
theorem bF_held {t l : Int} {b r : OI} {v : V} : bF t l b r ≠ ([("held", v)] : List (Str × V)) := fun e => by
  have h := bF_top (t := t) (l := l) (b := b) (r := r)
  rw [e, List.lookup_cons, show (("top" : Str) == ("held" : Str)) = false from by decide +kernel] at h
  cases h
theorem form_held {u v : V} : ([("form", u)] : List (Str × V)) ≠ ([("held", v)] : List (Str × V)) := fun e => by
  have h : ([("held", v)] : List (Str × V)).lookup ("form" : Str) = some u := by rw [← e]; rfl
  rw [List.lookup_cons, show (("form" : Str) == ("held" : Str)) = false from by decide +kernel] at h
  cases h
/-- a sheet's own object changes -/
theorem area_delS {C CA CS : Addr} {H : Hp} {a dx : Addr} {u v : V} {bs : List Blk} (ha : H a = some (.ins CS dx [("held", u)])) (h : AreaAt C CA H v bs) : AreaAt C CA (delH' H a) v bs := by
  obtain ⟨x, dxa, la, e1, e2, e3, e4, e5⟩ := h
  refine ⟨x, dxa, la, e1, ?_, e3, by rw [del_ne (ne_of e4 ha fun z => nomatch z)]; exact e4, paired_imp (fun v b ⟨y, dy, z1, z2⟩ => ⟨y, dy, z1, ?_⟩) e5⟩
  · rw [del_ne (ne_of e2 ha fun z => by injection z with _ _ z; exact form_held z)]
    exact e2
  · rw [del_ne (ne_of z2 ha fun z => by injection z with _ _ z; exact bF_held z)]
    exact z2
section
variable {P : Program} {w : World} {K : PySem.W.Frag} {mg : Str → Option Value} {base : Heap} {C CA CS : Addr}
abbrev sSInit : Stmt := inClass (top 48) 0
theorem scSInit : FnScope ["self"] ["self"] (defScope sSInit) := ⟨rfl, rfl, rfl, by decide +kernel, rfl, by decide +kernel, by decide +kernel⟩
def spSInit (C CA CS : Addr) : Sp := fun vs H Q _ => ∃ (x dx : Addr), vs = [.ref x] ∧ H x = some (.ins CS dx []) ∧ ∀ H' d, (∀ b o, b ≠ x → H b = some o → H' b = some o) → H' x = some (.ins CS dx [("held", .ref d)]) → DictAt C CA H' d newH → Q .non H'
theorem ok_sinit {f : Addr} {fd : FuncData} (F : FnD K "__init__" "Sheet.__init__" sSInit [] f fd) (M : Mk K CS f) (T : SK K mg CS) (cB : C8.Mak P w K mg base 4 "Block" C (spBInit C) dvB) (cA : C8.Mak P w K mg base 7 "Area" CA (spAInit C CA) []) : C8.Mak P w K mg base 9 "Sheet" CS (spSInit C CA CS) [] := by
  refine makD M T.mg F (F.bindsN fun _ _ _ _ _ _ us hl => match us, hl with | [_], _ => rfl) .nil scSInit (fun vs H Q E h => ?_) (fun cdv A outer s H vs Q E hr h => ?_)
  · obtain ⟨x, dx, rfl, _⟩ := h
    rfl
  · obtain ⟨x, dx, rfl, hx, k⟩ := h
    refine ⟨_, pss_one (ps_fld (pv 0) (pe_disp (pps_cons pe_str (C8.pe_mk cA hr (by decide) rfl (pa_cons (pe_lst (pa_cons (pe_mk0 cB hr (by decide) rfl) pa_nil)) pa_nil)) pps_nil) (by rfl) (by rfl) (fun z => by cases z) (by decide)) rfl), ?_⟩
    refine fun p hp => fun bx bdx hbx hbdx _ => ⟨bx, bdx, ⟨1, 1, none, none⟩, rfl, ⟨Int.le_refl _, Int.le_refl _, trivial, trivial⟩, upd_same, rfl, (by show 1 ≤ sizeLine; decide), fun l hl => ?_⟩
    have s0 : Same H (upd H p (.dK [])) := same_new hp
    have hp0 : (upd H p (.dK [])) p = some (.dK []) := upd_same
    generalize upd H p (.dK []) = H0 at s0 hp0 hbx hbdx hl
    have s1 := mk_same (C := C) (fs := bF 1 1 none none) hbx hbdx
    have hb1 : BlkAt C (upd (upd (upd H0 bdx (.own bx)) bx (.ins C bdx [])) bx (.ins C bdx (bF 1 1 none none))) (.ref bx) ⟨1, 1, none, none⟩ := ⟨bx, bdx, rfl, upd_same⟩
    have hl' : (upd (upd (upd H0 bdx (.own bx)) bx (.ins C bdx [])) bx (.ins C bdx (bF 1 1 none none))) l = none := hl
    show ∀ _ _, _
    clear hl
    have e0 : (upd (upd (upd H0 bdx (.own bx)) bx (.ins C bdx [])) bx (.ins C bdx (bF (⟨1, 1, none, none⟩ : Blk).t (⟨1, 1, none, none⟩ : Blk).l (⟨1, 1, none, none⟩ : Blk).b (⟨1, 1, none, none⟩ : Blk).r))) = (upd (upd (upd H0 bdx (.own bx)) bx (.ins C bdx [])) bx (.ins C bdx (bF 1 1 none none))) := rfl
    rw [e0]
    generalize (upd (upd (upd H0 bdx (.own bx)) bx (.ins C bdx [])) bx (.ins C bdx (bF 1 1 none none))) = H1 at s1 hb1 hl'
    have s2 : Same H1 (upd H1 l (.lst [.ref bx])) := same_new hl'
    have hb2 : Blks C (upd H1 l (.lst [.ref bx])) l [⟨1, 1, none, none⟩] := ⟨_, upd_same, .cons (hb1.same s2) .nil⟩
    generalize upd H1 l (.lst [.ref bx]) = H2 at s2 hb2
    have s02 := s1.trans s2
    refine fun ax adx hax hadx _ => ⟨ax, adx, .ref l, _, [1], [1], rfl, upd_same, .inr ⟨l, rfl, blks_mk hax hadx hb2⟩, fine_new, fun H3 l3 _ keep hx3 hb3 => ⟨rfl, ?_⟩⟩
    have s3 : Same H2 H3 := mk_keep hax hadx keep
    have hA : AreaAt C CA H3 (.ref ax) (areaOf [⟨1, 1, none, none⟩]) := aInit_at (H := H3) hx3 hb3
    have hp3 := (s02.trans s3) _ _ hp0
    have s03 := (s0.trans s02).trans s3
    refine ⟨hp3, [(Sum.inr (PySem.Str.ofString ""), .ref ax)], rfl, (by show 1 ≤ 15; decide), ?_⟩
    have nxp : x ≠ p := ne_of_none hx hp
    have hx4 : (upd H3 p (.dK (mergeK [] [(Sum.inr (PySem.Str.ofString ""), .ref ax)]))) x = some (.ins CS dx []) := by rw [upd_ne nxp]; exact s03 _ _ hx
    have hA4 : AreaAt C CA (upd H3 p (.dK (mergeK [] [(Sum.inr (PySem.Str.ofString ""), .ref ax)]))) (.ref ax) (areaOf [⟨1, 1, none, none⟩]) := AreaAt.same del_upd (area_delP hp3 rfl hA)
    have hp4 : (upd H3 p (.dK (mergeK [] [(Sum.inr (PySem.Str.ofString ""), .ref ax)]))) p = some (.dK [(Sum.inr (PySem.Str.ofString ""), .ref ax)]) := upd_same
    have s04 : Same H (upd H3 p (.dK (mergeK [] [(Sum.inr (PySem.Str.ofString ""), .ref ax)]))) := sm_mut s03 hp
    generalize upd H3 p (.dK (mergeK [] [(Sum.inr (PySem.Str.ofString ""), .ref ax)])) = H4 at hx4 hA4 hp4 s04
    refine ⟨_, rfl, x, CS, dx, _, rfl, hx4, T.cl, T.nh, (by show 0 < 1000; decide), ?_⟩
    refine k _ p (fun b o hb e => by rw [upd_ne hb]; exact s04 _ _ e) upd_same ⟨_, by rw [upd_ne nxp.symm]; exact hp4, .cons ⟨rfl, ?_⟩ .nil⟩
    obtain ⟨a, dxa, la, e1, e2, e3, e4, e5⟩ := hA4
    refine ⟨a, dxa, la, e1, ?_, ?_⟩
    · rw [upd_ne (ne_of e2 hx4 fun z => by injection z with _ _ z; cases z)]
      exact e2
    · refine ⟨e3, by rw [upd_ne (ne_of e4 hx4 fun z => nomatch z)]; exact e4, paired_imp (fun v b ⟨a', dx', z1, z2⟩ => ⟨a', dx', z1, ?_⟩) e5⟩
      rw [upd_ne (ne_of z2 hx4 fun z => by injection z with _ _ z; exact bF_nn z)]
      exact z2
abbrev sHold : Stmt := inClass (top 48) 4
theorem scHold : FnScope ["self", "held", "value", "area"] ["self", "held"] (defScope sHold) := ⟨rfl, rfl, rfl, by decide +kernel, rfl, by decide +kernel, by decide +kernel⟩
def spHold (C CA CS : Addr) : Sp := fun vs H Q _ => ∃ (a dx dH : Addr) (v0 : V) (h : Held), vs = [.ref a, .ref dH] ∧ H a = some (.ins CS dx [("held", v0)]) ∧ DictAt C CA H dH h ∧ (keysH h).Nodup ∧ h.length ≤ 60 ∧ (∀ p ∈ h, p.2.length ≤ 600) ∧
  ∀ H' d, (∀ b o, b ≠ a → H b = some o → H' b = some o) → H' a = some (.ins CS dx [("held", .ref d)]) → DictAt C CA H' d (holdH h) → Q .non H'
theorem put_new {h : Held} {v : Txt} {bs : List Blk} (hn : v ∉ keysH h) : putH h v bs = h ++ [(v, bs)] := by
  unfold putH
  rw [if_neg]
  intro e
  obtain ⟨p, hp, e⟩ := List.any_eq_true.mp e
  exact hn (List.mem_map.mpr ⟨p, hp, of_decide_eq_true e⟩)
theorem keys_take {h : Held} {i : Nat} {p : Txt × List Blk} (nd : (keysH h).Nodup) (hp : h[i]? = some p) : p.1 ∉ keysH (holdH (h.take i)) := by
  intro e
  obtain ⟨q, hq, e⟩ := List.mem_map.mp e
  have hq2 := (List.mem_filter.mp hq).1
  obtain ⟨j, hj⟩ := List.mem_iff_getElem?.mp hq2
  have hji : j < i := by
    have := (List.getElem?_eq_some_iff.mp hj).1
    rw [List.length_take] at this
    omega
  rw [List.getElem?_take, if_pos hji] at hj
  have h1 : (keysH h)[j]? = some p.1 := by
    unfold keysH
    rw [List.getElem?_map, hj, ← e]
    rfl
  have h2 : (keysH h)[i]? = some p.1 := by
    unfold keysH
    rw [List.getElem?_map, hp]
    rfl
  obtain ⟨l1, g1⟩ := List.getElem?_eq_some_iff.mp h1
  obtain ⟨l2, g2⟩ := List.getElem?_eq_some_iff.mp h2
  have := (List.getElem_inj nd).mp (g1.trans g2.symm)
  omega
theorem ok_hold {f fl : Addr} {fd fdl : FuncData} (F : FnD K "hold" "Sheet.hold" sHold [] f fd) (me : Meth K CS "hold" f) (B : Bi mg) (T : SK K mg CS) (TA : AK K mg CA) (Fl : FnD K "__len__" "Area.__len__" sALen [] fl fdl) (ml : Meth K CA "__len__" fl) : C8.Met P w K mg base 3 CS "hold" (spHold C CA CS) [] := by
  have Gl : FnOk P w K mg base C8.CX0 1 fl fdl ["self"] (spALen C CA) := fn_alen Fl B TA
  have bl : Binds K fdl ["self"] [] := Fl.bindsN fun _ _ _ _ _ _ us hl => match us, hl with | [_], _ => rfl
  refine metD T.cl me F (F.bindsN fun _ _ _ _ _ _ us hl => match us, hl with | [_, _], _ => rfl) .nil scHold (fun vs H Q E h => ?_) (fun cdv A outer s H vs Q E hr h => ?_)
  · obtain ⟨a, dx, dH, v0, h, rfl, _⟩ := h
    rfl
  · obtain ⟨a, dx, dH, v0, h, rfl, ha, ⟨kvs, hdH, hent⟩, nd, zh, zf, k⟩ := h
    have hu := hu_of hr
    refine ⟨_, pss_cons (ps_fld (pv 0) pe_dnewK rfl)
      (pss_one (ps_lock (ps_for PassesOwn.never rfl (pi_items (pv 1)) (pg_tup rfl (pgs_cons (pg_name (i := 2) scHold.nd rfl (.inl rfl)) (pgs_cons (pg_name (i := 3) scHold.nd rfl (.inl rfl)) pgs_nil)))
        (pss_one (ps_if (pt_cmpR op_gt (pe_callB (call_lenO Gl ml.at_ ml.fn bl (E := C8.E0) C8.pass0 hr) rfl B.len PySem.boot_len (pa_cons (pv 3) pa_nil)) pe_int (nomark _))
          (pss_one (ps_dput hu (pe_fld (pv 0) rfl) (pv 2) (pv 3) rfl)) pss_nil))))), ?_⟩
    refine fun D hD => ⟨_, rfl, a, CS, dx, _, rfl, by rw [upd_ne (ne_of_none ha hD)]; exact ha, T.cl, T.nh, (by show 1 < 1000; decide), ?_⟩
    rw [h_put]
    have naD := ne_of_none ha hD
    have ndD := ne_of_none hdH hD
    have nad : a ≠ dH := ne_of ha hdH fun z => nomatch z
    -- the heap at the loop, d locked
    refine ⟨dH, .dK kvs, by rw [upd_ne nad.symm, upd_ne ndD]; exact hdH, trivial, fun od => ?_⟩
    have hA : ∀ kv p, EntR C CA H kv p → EntR C CA (delH' (delH' H dH) a) kv p := fun kv p z => ⟨z.1, area_delS (by rw [del_ne nad]; exact ha) (area_delP hdH rfl z.2)⟩
    have s00 : Same (delH' (delH' H dH) a) (delH' (upd (upd (upd H D (.dK [])) a (.ins CS dx [("held", .ref D)])) dH (.frz od (.dK kvs))) D) := fun c o e => by
      by_cases c1 : c = a
      · rw [c1, del_self] at e
        cases e
      rw [del_ne c1] at e
      by_cases c2 : c = dH
      · rw [c2, del_self] at e
        cases e
      rw [del_ne c2] at e
      have c3 : c ≠ D := ne_of_none e hD
      rw [del_ne c3, upd_ne c2, upd_ne c1, upd_ne c3]
      exact e
    have hp0 := paired_imp (fun kv p z => EntR.same s00 (hA kv p z)) hent
    have hd0 : (delH' (upd (upd (upd H D (.dK [])) a (.ins CS dx [("held", .ref D)])) dH (.frz od (.dK kvs))) D) dH = some (.frz od (.dK kvs)) := by rw [del_ne ndD, upd_same]
    have ha0 : (delH' (upd (upd (upd H D (.dK [])) a (.ins CS dx [("held", .ref D)])) dH (.frz od (.dK kvs))) D) a = some (.ins CS dx [("held", .ref D)]) := by rw [del_ne naD, upd_ne nad, upd_same]
    have hD1 : (upd (upd (upd H D (.dK [])) a (.ins CS dx [("held", .ref D)])) dH (.frz od (.dK kvs))) D = some (.dK []) := by rw [upd_ne ndD.symm, upd_ne naD.symm, upd_same]
    have hd1 : (upd (upd (upd H D (.dK [])) a (.ins CS dx [("held", .ref D)])) dH (.frz od (.dK kvs))) dH = some (.frz od (.dK kvs)) := upd_same
    have keep0 : ∀ b o, b ≠ a → b ≠ dH → H b = some o → (delH' (upd (upd (upd H D (.dK [])) a (.ins CS dx [("held", .ref D)])) dH (.frz od (.dK kvs))) D) b = some o := fun b o b1 b2 e => by
      have b3 := ne_of_none e hD
      rw [del_ne b3, upd_ne b2, upd_ne b1, upd_ne b3]
      exact e
    have sub0 : Same (delH' (upd (upd (upd H D (.dK [])) a (.ins CS dx [("held", .ref D)])) dH (.frz od (.dK kvs))) D) (upd (upd (upd H D (.dK [])) a (.ins CS dx [("held", .ref D)])) dH (.frz od (.dK kvs))) := del_sub
    have nD0 : (delH' (upd (upd (upd H D (.dK [])) a (.ins CS dx [("held", .ref D)])) dH (.frz od (.dK kvs))) D) D = none := del_self
    clear s00 hA
    refine ⟨_, rfl, dH, od, kvs, rfl, hd1, ?_⟩
    generalize delH' (upd (upd (upd H D (.dK [])) a (.ins CS dx [("held", .ref D)])) dH (.frz od (.dK kvs))) D = H0 at hp0 hd0 ha0 keep0 sub0 nD0
    generalize upd (upd (upd H D (.dK [])) a (.ins CS dx [("held", .ref D)])) dH (.frz od (.dK kvs)) = H1 at hD1 hd1 sub0
    refine for_itemsG (E := EntR C CA) (H0 := H0) hd0 hp0 (fun i σ H2 => ∃ v ar, σ = [some (.ref a), some (.ref dH), v, ar] ∧ Same H0 H2 ∧ DictAt C CA H2 D (holdH (h.take i)))
      ⟨_, _, rfl, sub0, [], hD1, by rw [List.take_zero]; exact .nil⟩ (fun i σ H2 ⟨_, _, _, s2, _⟩ => s2) ?_ ?_
    · rintro i ⟨ky, u⟩ p t σ H2 hi hp ⟨hk, hu'⟩ ⟨v', ar', rfl, s2, kv2, hD2, hp2⟩ ht
      dsimp only at hk hu'
      subst hk
      refine ⟨t, _, rfl, sqt upd_same, rfl, _, _, rfl, _, _, rfl, rfl, ?_⟩
      have s3 : Same H2 (upd H2 t (.tup [.str p.1, u])) := same_new ht
      have sa : Same H0 (upd H2 t (.tup [.str p.1, u])) := s2.trans s3
      have hD3 := s3 _ _ hD2
      have hp3 := paired_imp (fun _ _ z => EntR.same s3 z) hp2
      have hu3 := hu'.same sa
      have ha3 := sa _ _ ha0
      have hz : p.2.length ≤ 600 := zf p (List.mem_of_getElem? hp)
      have et : ∀ b, (!p.2.isEmpty) = b → (holdH (h.take (i + 1))) = holdH (h.take i) ++ (if b then [p] else []) := fun b hb => by
        unfold holdH
        rw [take_succ' hp, List.filter_append, List.filter_cons, hb]
        cases b <;> rfl
      show (tIfS _ _ _) _ _ (upd H2 t (.tup [.str p.1, u]))
      generalize upd H2 t (.tup [.str p.1, u]) = H3 at s3 sa hD3 hp3 hu3 ha3
      obtain ⟨x, dxa, la, rfl, hx, hla⟩ := id hu3
      refine ⟨_, rfl, x, dxa, _, rfl, hx, ⟨_, p.2, rfl, hu3, (p.2.length : Int), rfl, by omega, by omega, ?_⟩⟩
      refine ⟨_, _, rfl, rfl, _, rfl, ?_⟩
      refine ite2 (fun hc => ?_) (fun hc => ?_)
      · have hc' := of_decide_eq_true hc
        have hne : (!p.2.isEmpty) = true := by
          cases e : p.2 with
          | nil => rw [e] at hc'; simp at hc'
          | cons b bs => rfl
        refine ⟨_, rfl, _, rfl, a, CS, dx, _, _, rfl, ha3, T.cl, T.nh, h_form, _, rfl, D, _, rfl, DPut.k (k := Sum.inr p.1) hD3 ?_, ?_⟩
        · have l1 := Paired.length hp3
          have l2 : (holdH (h.take i)).length ≤ (h.take i).length := List.length_filter_le _ _
          have l3 : (h.take i).length ≤ h.length := List.length_take_le' i h
          exact sz_lt (by omega)
        · refine ⟨_, _, rfl, sm_mut sa nD0, _, upd_same, ?_⟩
          rw [et true hne, show (if true = true then [p] else []) = [(p.1, p.2)] from rfl, ← put_new (h := holdH (h.take i)) (v := p.1) (bs := p.2) (keys_take nd hp)]
          exact paired_imp (fun _ _ z => EntR.same del_upd (ent_delP hD3 rfl z)) (ent_put hp3 hu3)
      · have hc' : ¬ ((p.2.length : Int) > 0) := fun z => hc (decide_eq_true z)
        have hne : (!p.2.isEmpty) = false := by
          cases e : p.2 with
          | nil => rfl
          | cons b bs => rw [e] at hc'; simp at hc'
        refine ⟨_, _, rfl, sa, _, hD3, ?_⟩
        rw [et false hne]
        simpa using hp3
    · rintro σ H2 ⟨v', ar', rfl, s2, kv2, hD2, hp2⟩
      rw [List.take_of_length_le (Nat.le_refl _)] at hp2
      have hd2 := s2 _ _ hd0
      refine ⟨hd2, ?_⟩
      refine k _ D (fun b o hb e => ?_) (by rw [upd_ne nad]; exact s2 _ _ ha0) ⟨kv2, by rw [upd_ne ndD.symm]; exact hD2, paired_imp (fun _ _ z => EntR.same del_upd (ent_delP hd2 rfl z)) hp2⟩
      by_cases b2 : b = dH
      · subst b2
        rw [hdH] at e
        cases e
        exact upd_same
      · rw [upd_ne b2]
        exact s2 _ _ (keep0 b o hb b2 e)
end
end CB
end
section
set_option maxHeartbeats 4000000
/-! Sheet.fill -/
namespace CB
open PySem PySem.Spec PyProof.Rows L2 CBM
theorem fine_areaK {rs cs : List Int} {one other : List Blk} (k : Bool → Bool → Bool) (h1 : Fine rs cs one) (h2 : Fine rs cs other) : Fine rs cs (areaK one other k) := (fine_byK kOr (fine_byK k h1 h2).2.2.2 (fine_nil rs cs h1.1 h1.2.1)).2.2.2
theorem keys_map {h : Held} {f : Txt × List Blk → List Blk} : keysH (h.map fun p => (p.1, f p)) = keysH h := by
  unfold keysH
  rw [List.map_map]
  rfl
theorem keys_put {h : Held} {v : Txt} {bs : List Blk} (nd : (keysH h).Nodup) : (keysH (putH h v bs)).Nodup := by
  unfold putH
  split
  · have e : keysH (h.map fun p => if p.1 = v then (p.1, bs) else p) = keysH h := by
      unfold keysH
      rw [List.map_map]
      refine List.map_congr_left fun p _ => ?_
      show (if p.1 = v then (p.1, bs) else p).1 = p.1
      split <;> rfl
    rw [e]
    exact nd
  · rename_i hn
    unfold keysH
    rw [List.map_append]
    refine List.nodup_append.mpr ⟨nd, by simp, fun a ha b hb => ?_⟩
    obtain rfl : b = v := by simpa using hb
    rintro rfl
    obtain ⟨p, hp, e⟩ := List.mem_map.mp ha
    exact hn (List.any_eq_true.mpr ⟨p, hp, decide_eq_true e⟩)
theorem put_len (h : Held) (v : Txt) (bs : List Blk) : (putH h v bs).length ≤ h.length + 1 := by
  unfold putH
  split <;> simp
theorem put_mem {h : Held} {v : Txt} {bs : List Blk} {p : Txt × List Blk} (hp : p ∈ putH h v bs) : p ∈ h ∨ p = (v, bs) := by
  unfold putH at hp
  split at hp
  · obtain ⟨q, hq, rfl⟩ := List.mem_map.mp hp
    by_cases e : q.1 = v
    · rw [if_pos e, e]
      exact .inr rfl
    · rw [if_neg e]
      exact .inl hq
  · rcases List.mem_append.mp hp with hp | hp
    · exact .inl hp
    · exact .inr (List.mem_singleton.mp hp)
theorem keys_take2 {h : Held} {i : Nat} {p : Txt × List Blk} (nd : (keysH h).Nodup) (hp : h[i]? = some p) : p.1 ∉ keysH (h.take i) := by
  intro e
  obtain ⟨q, hq2, e⟩ := List.mem_map.mp e
  obtain ⟨j, hj⟩ := List.mem_iff_getElem?.mp hq2
  have hji : j < i := by
    have := (List.getElem?_eq_some_iff.mp hj).1
    rw [List.length_take] at this
    omega
  rw [List.getElem?_take, if_pos hji] at hj
  have h1 : (keysH h)[j]? = some p.1 := by
    unfold keysH
    rw [List.getElem?_map, hj, ← e]
    rfl
  have h2 : (keysH h)[i]? = some p.1 := by
    unfold keysH
    rw [List.getElem?_map, hp]
    rfl
  obtain ⟨l1, g1⟩ := List.getElem?_eq_some_iff.mp h1
  obtain ⟨l2, g2⟩ := List.getElem?_eq_some_iff.mp h2
  have := (List.getElem_inj nd).mp (g1.trans g2.symm)
  omega
section
variable {P : Program} {w : World} {K : PySem.W.Frag} {mg : Str → Option Value} {base : Heap} {C CA CS : Addr}
abbrev sFill : Stmt := inClass (top 48) 3
theorem scFill : FnScope ["self", "area", "value", "held", "one", "place"] ["self", "area", "value"] (defScope sFill) := ⟨rfl, rfl, rfl, by decide +kernel, rfl, by decide +kernel, by decide +kernel⟩
def spFill (C CA CS : Addr) : Sp := fun vs H Q _ => ∃ (a dx d : Addr) (u : V) (v : Str) (h : Held) (bs : List Blk) (rs cs : List Int), vs = [.ref a, u, .str v] ∧ H a = some (.ins CS dx [("held", .ref d)]) ∧ DictAt C CA H d h ∧ AreaAt C CA H u bs ∧ ValOk v ∧ Fine rs cs bs ∧ (∀ p ∈ h, Fine rs cs p.2) ∧ (keysH h).Nodup ∧ h.length ≤ 50 ∧
  ∀ H' d', (∀ b o, b ≠ a → H b = some o → H' b = some o) → H' a = some (.ins CS dx [("held", .ref d')]) → DictAt C CA H' d' (fillH h bs v) → Q .non H'
theorem ok_fill {f : Addr} {fd : FuncData} (F : FnD K "fill" "Sheet.fill" sFill [] f fd) (me : Meth K CS "fill" f) (B : Bi mg) (T : SK K mg CS) (TA : AK K mg CA) (cC : C8.Cal P w K mg base 1 "checked_area" (spChkA CA) []) (cV : C8.Cal P w K mg base 1 "check_value" spChkV [])
    (cW : C8.Met P w K mg base 10 CA "without" (spAK C CA kSub) []) (cJ : C8.Met P w K mg base 10 CA "joined" (spAK C CA kOr) []) (cA : C8.Mak P w K mg base 7 "Area" CA (spAInit C CA) [.non]) (cH : C8.Met P w K mg base 3 CS "hold" (spHold C CA CS) []) : C8.Met P w K mg base 11 CS "fill" (spFill C CA CS) [] := by
  refine metD T.cl me F (F.bindsN fun _ _ _ _ _ _ us hl => match us, hl with | [_, _, _], _ => rfl) .nil scFill (fun vs H Q E h => ?_) (fun cdv A outer s H vs Q E hr h => ?_)
  · obtain ⟨a, dx, d, u, v, h, bs, rs, cs, rfl, _⟩ := h
    rfl
  · obtain ⟨a, dx, d, u, v, h, bs, rs, cs, rfl, ha, ⟨kvs, hd, hent⟩, hu, hv, hf, hfs, nd, zh, k⟩ := h
    have hru := hu_of hr
    refine ⟨_, pss_cons (ps_expr (C8.pe_c cC hr (by decide) rfl (pa_cons (pv 1) pa_nil)))
      (pss_cons (ps_expr (C8.pe_c cV hr (by decide) rfl (pa_cons (pv 2) pa_nil)))
      (pss_cons (ps_set (i := 3) scFill.nd rfl (Or.inl rfl) pe_dnewK)
      (pss_cons (ps_lock (ps_for PassesOwn.never rfl (pi_items (pe_fld (pv 0) rfl)) (pg_tup rfl (pgs_cons (pg_name (i := 4) scFill.nd rfl (.inl rfl)) (pgs_cons (pg_name (i := 5) scFill.nd rfl (.inl rfl)) pgs_nil)))
        (pss_one (ps_dput hru (pv 3) (pv 4) (C8.pe_mt cW hr (by decide) (pv 5) (pa_cons (pv 1) pa_nil)) rfl))))
      (pss_cons (ps_dput hru (pv 3) (pv 2) (C8.pe_mt cJ hr (by decide) (pe_dget2 hru (pv 3) (pv 2) (pe_mk0 cA hr (by decide) rfl) ⟨rfl, rfl, rfl, rfl⟩) (pa_cons (pv 1) pa_nil)) rfl)
      (pss_one (ps_expr (C8.pe_mt cH hr (by decide) (pv 0) (pa_cons (pv 3) pa_nil)))))))), ?_⟩
    obtain ⟨au, dxu, lu, rfl, hau, hlu⟩ := id hu
    refine ⟨_, rfl, au, dxu, _, rfl, hau, _, rfl, v, rfl, hv, fun H1 s1 => ?_⟩
    refine fun D hD => ?_
    have hD' : H D = none := s1.free hD
    have hd1 := s1 _ _ hd
    have ha1 := s1 _ _ ha
    have ndD : d ≠ D := ne_of_none hd hD'
    have naD : a ≠ D := ne_of_none ha hD'
    have nad : a ≠ d := ne_of ha hd fun z => nomatch z
    refine ⟨d, .dK kvs, by rw [upd_ne ndD]; exact hd1, trivial, fun od => ?_⟩
    have s00 : Same (delH' H1 d) (delH' (upd (upd H1 D (.dK [])) d (.frz od (.dK kvs))) D) := fun c o e => by
      by_cases c2 : c = d
      · rw [c2, del_self] at e
        cases e
      rw [del_ne c2] at e
      have c3 : c ≠ D := ne_of_none e hD
      rw [del_ne c3, upd_ne c2, upd_ne c3]
      exact e
    have hp0 := paired_imp (fun kv p z => EntR.same s00 (ent_delP hd1 rfl (EntR.same s1 z))) hent
    have hu0 := (area_delP hd1 rfl (hu.same s1)).same s00
    have ha0 : (delH' (upd (upd H1 D (.dK [])) d (.frz od (.dK kvs))) D) a = some (.ins CS dx [("held", .ref d)]) := by rw [del_ne naD, upd_ne nad, upd_ne naD]; exact ha1
    have hd0 : (delH' (upd (upd H1 D (.dK [])) d (.frz od (.dK kvs))) D) d = some (.frz od (.dK kvs)) := by rw [del_ne ndD, upd_same]
    have hDL : (upd (upd H1 D (.dK [])) d (.frz od (.dK kvs))) D = some (.dK []) := by rw [upd_ne ndD.symm, upd_same]
    have hdL : (upd (upd H1 D (.dK [])) d (.frz od (.dK kvs))) d = some (.frz od (.dK kvs)) := upd_same
    have haL : (upd (upd H1 D (.dK [])) d (.frz od (.dK kvs))) a = some (.ins CS dx [("held", .ref d)]) := by rw [upd_ne nad, upd_ne naD]; exact ha1
    have sub0 : Same (delH' (upd (upd H1 D (.dK [])) d (.frz od (.dK kvs))) D) (upd (upd H1 D (.dK [])) d (.frz od (.dK kvs))) := del_sub
    have nD0 : (delH' (upd (upd H1 D (.dK [])) d (.frz od (.dK kvs))) D) D = none := del_self
    have keep0 : ∀ b o, b ≠ d → H b = some o → (delH' (upd (upd H1 D (.dK [])) d (.frz od (.dK kvs))) D) b = some o := fun b o b2 e => by
      have b3 := ne_of_none e hD'
      rw [del_ne b3, upd_ne b2, upd_ne b3]
      exact s1 _ _ e
    clear s00
    refine ⟨_, rfl, a, CS, dx, _, _, rfl, haL, T.cl, T.nh, h_form, d, od, kvs, rfl, hdL, ?_⟩
    generalize delH' (upd (upd H1 D (.dK [])) d (.frz od (.dK kvs))) D = H0 at hp0 hu0 ha0 hd0 sub0 nD0 keep0
    generalize upd (upd H1 D (.dK [])) d (.frz od (.dK kvs)) = HL at hDL hdL haL sub0
    have k' : ∀ H' d', (∀ b o, b ≠ a → H b = some o → H' b = some o) → H' a = some (.ins CS dx [("held", .ref d')]) → DictAt C CA H' d' (holdH (putH (h.map fun p => (p.1, areaK p.2 bs kSub)) v (areaK ((getH (h.map fun p => (p.1, areaK p.2 bs kSub)) v).getD (areaOf [])) bs kOr))) → Q .non H' := k
    clear k
    refine for_itemsG (E := EntR C CA) (H0 := H0) hd0 hp0 (fun i σ H2 => ∃ on pl, σ = [some (.ref a), some (.ref au), some (.str v), some (.ref D), on, pl] ∧ Same H0 H2 ∧ DictAt C CA H2 D ((h.take i).map fun p => (p.1, areaK p.2 bs kSub)))
      ⟨_, _, rfl, sub0, [], hDL, by rw [List.take_zero]; exact .nil⟩ (fun i σ H2 ⟨_, _, _, s2, _⟩ => s2) ?_ ?_
    · rintro i ⟨ky, u2⟩ p t σ H2 hi hp ⟨hk, hu2⟩ ⟨on', pl', rfl, s2, kv2, hD2, hp2⟩ ht
      dsimp only at hk hu2
      subst hk
      refine ⟨t, _, rfl, sqt upd_same, rfl, _, _, rfl, _, _, rfl, rfl, ?_⟩
      have s3 : Same H2 (upd H2 t (.tup [.str p.1, u2])) := same_new ht
      have sa : Same H0 (upd H2 t (.tup [.str p.1, u2])) := s2.trans s3
      have hD3 := s3 _ _ hD2
      have hp3 := paired_imp (fun _ _ z => EntR.same s3 z) hp2
      have hu3 := hu2.same sa
      have hb3 := hu0.same sa
      have hpm := List.mem_of_getElem? hp
      show (sDPut _ _ _) _ _ (upd H2 t (.tup [.str p.1, u2]))
      generalize upd H2 t (.tup [.str p.1, u2]) = H3 at s3 sa hD3 hp3 hu3 hb3
      obtain ⟨x, dxa, la, rfl, hx, hla⟩ := id hu3
      refine ⟨_, rfl, x, dxa, _, rfl, hx, a_no (by decide +kernel), _, rfl, _, _, p.2, bs, rs, cs, rfl, hu3, hb3, hfs p hpm, hf, fun H4 z s4 hzF => ?_⟩
      have hz := hzF.at
      have hD4 := s4 _ _ hD3
      have hp4 := paired_imp (fun _ _ z => EntR.same s4 z) hp3
      refine ⟨_, rfl, _, rfl, D, _, rfl, DPut.k (k := Sum.inr p.1) hD4 ?_, ?_⟩
      · have l1 := Paired.length hp3
        rw [List.length_map] at l1
        have l3 : (h.take i).length ≤ h.length := List.length_take_le' i h
        exact sz_lt (by omega)
      · have hn : p.1 ∉ keysH ((h.take i).map fun p => (p.1, areaK p.2 bs kSub)) := by
          rw [keys_map]
          intro e
          refine keys_take2 nd hp e
        refine ⟨_, _, rfl, sm_mut (sa.trans s4) nD0, _, upd_same, ?_⟩
        have et : (h.take (i + 1)).map (fun p => (p.1, areaK p.2 bs kSub)) = putH ((h.take i).map fun p => (p.1, areaK p.2 bs kSub)) p.1 (areaK p.2 bs kSub) := by
          rw [put_new hn, take_succ' hp, List.map_append]
          rfl
        rw [et]
        exact paired_imp (fun _ _ z => EntR.same del_upd (ent_delP hD4 rfl z)) (ent_put hp4 hz)
    · rintro σ H2 ⟨on', pl', rfl, s2, kv2, hD2, hp2⟩
      rw [List.take_of_length_le (Nat.le_refl _)] at hp2
      have hd2 := s2 _ _ hd0
      refine ⟨hd2, ?_⟩
      have hD3 : (upd H2 d (.dK kvs)) D = some (.dK kv2) := by rw [upd_ne ndD.symm]; exact hD2
      have hp3 := paired_imp (fun _ _ z => EntR.same (del_upd (o := .dK kvs)) (ent_delP hd2 rfl z)) hp2
      have hu3 := AreaAt.same (del_upd (o := .dK kvs)) (area_delP hd2 rfl (hu0.same s2))
      have ha3 : (upd H2 d (.dK kvs)) a = some (.ins CS dx [("held", .ref d)]) := by rw [upd_ne nad]; exact s2 _ _ ha0
      have s3 : Same H (upd H2 d (.dK kvs)) := fun b o e => by
        by_cases b2 : b = d
        · subst b2
          rw [hd] at e
          cases e
          exact upd_same
        · rw [upd_ne b2]
          exact s2 _ _ (keep0 b o b2 e)
      generalize upd H2 d (.dK kvs) = H3 at hD3 hp3 hu3 ha3 s3
      have kd2 : (keysH (h.map fun p => (p.1, areaK p.2 bs kSub))).Nodup := by rw [keys_map]; exact nd
      have fs2 : ∀ p ∈ h.map (fun p => (p.1, areaK p.2 bs kSub)), Fine rs cs p.2 := fun p hp => by
        obtain ⟨q, hq, rfl⟩ := List.mem_map.mp hp
        exact fine_areaK kSub (hfs q hq) hf
      have zl2 : (h.map fun p => (p.1, areaK p.2 bs kSub)).length ≤ 50 := by rw [List.length_map]; exact zh
      generalize (h.map fun p => (p.1, areaK p.2 bs kSub)) = h2 at hp3 kd2 fs2 zl2 k'
      refine ⟨_, rfl, D, rfl, .inl ⟨_, .inl hD3⟩, _, rfl, fun x dy hx hdy _ => ⟨x, dy, .non, [], rs, cs, rfl, upd_same, .inl ⟨rfl, rfl⟩, fine_nil rs cs hf.1 hf.2.1, fun H4 l4 _ keep4 hx4 hb4 => ⟨rfl, ?_⟩⟩⟩
      have s4 : Same H3 H4 := mk_keep hx hdy keep4
      have hD4 := s4 _ _ hD3
      have hp4 := paired_imp (fun _ _ z => EntR.same s4 z) hp3
      refine ⟨_, DGet.k (k := Sum.inr v) hD4, ?_⟩
      have hz4 : AreaAt C CA H4 (((valV kv2 (Sum.inr v : Key))).getD (.ref x)) ((getH h2 v).getD (areaOf [])) ∧ Fine rs cs ((getH h2 v).getD (areaOf [])) := by
        have q := ent_getH hp4 v
        cases e1 : valV kv2 (Sum.inr v : Key) with
        | none =>
          cases e2 : getH h2 v with
          | none => exact ⟨aInit_at (H := H4) hx4 hb4, by rw [areaOf_nil]; exact fine_nil rs cs hf.1 hf.2.1⟩
          | some b => rw [e1, e2] at q; exact q.elim
        | some y =>
          cases e2 : getH h2 v with
          | none => rw [e1, e2] at q; exact q.elim
          | some b =>
            rw [e1, e2] at q
            refine ⟨q, ?_⟩
            unfold getH at e2
            cases e3 : h2.find? (fun p => decide (p.1 = v)) with
            | none => rw [e3] at e2; cases e2
            | some p =>
              rw [e3] at e2
              cases e2
              exact fs2 p (List.mem_of_find?_eq_some e3)
      obtain ⟨hz4, hfz⟩ := hz4
      obtain ⟨y, dxy, ly, ey, hy, hly⟩ := id hz4
      refine ⟨y, dxy, _, ey, hy, a_no (by decide +kernel), _, rfl, _, _, _, bs, rs, cs, rfl, hz4, hu3.same s4, hfz, hf, fun H5 z s5 hzF => ?_⟩
      have hz := hzF.at
      have hD5 := s5 _ _ hD4
      have hp5 := paired_imp (fun _ _ z => EntR.same s5 z) hp4
      have l5 : kv2.length ≤ 50 := by rw [Paired.length hp4]; exact zl2
      refine ⟨_, rfl, _, rfl, D, _, rfl, DPut.k (k := Sum.inr v) hD5 (sz_lt (by omega)), ?_⟩
      have hp6 : Paired (EntR C CA (upd H5 D (.dK (putK kv2 (Sum.inr v : Key) z)))) (putK kv2 (Sum.inr v : Key) z) (putH h2 v (areaK ((getH h2 v).getD (areaOf [])) bs kOr)) := paired_imp (fun _ _ q => EntR.same del_upd (ent_delP hD5 rfl q)) (ent_put (v := v) hp5 hz)
      have hD6 : (upd H5 D (.dK (putK kv2 (Sum.inr v : Key) z))) D = some (.dK (putK kv2 (Sum.inr v : Key) z)) := upd_same
      have ha6 : (upd H5 D (.dK (putK kv2 (Sum.inr v : Key) z))) a = some (.ins CS dx [("held", .ref d)]) := by rw [upd_ne naD]; exact s5 _ _ (s4 _ _ ha3)
      have s6 : Same H (upd H5 D (.dK (putK kv2 (Sum.inr v : Key) z))) := sm_mut ((s3.trans s4).trans s5) hD'
      refine ⟨_, rfl, a, dx, _, rfl, ha6, h_no (by decide +kernel), _, rfl, a, dx, D, _, _, rfl, ha6, ⟨_, hD6, hp6⟩, keys_put kd2, by have := put_len h2 v (areaK ((getH h2 v).getD (areaOf [])) bs kOr); omega, fun p hp => ?_, fun H7 d7 keep7 ha7 hd7 => ?_⟩
      · rcases put_mem hp with hp | rfl
        · have := (fs2 p hp).2.2.2
          omega
        · have := (fine_areaK kOr hfz hf).2.2.2
          show (areaK _ _ _).length ≤ 600
          omega
      · exact k' H7 d7 (fun b o hb e => keep7 b o hb (s6 _ _ e)) ha7 hd7
end
end CB
end
section
set_option maxHeartbeats 4000000
/-! Sheet: value, where, told, pairs, __len__, twin -/
namespace CB
open PySem PySem.Spec PyProof.Rows L2 CBM
def StrV (_ : Hp) (v : V) (s : Str) : Prop := v = .str s
theorem lst_strs {H : Hp} {D : Addr} {ns : List Str} (h : LstOf StrV H D ns) : H D = some (.lst (ns.map V.str)) := by
  obtain ⟨vs, h1, h2⟩ := h
  have e : vs = ns.map V.str := by
    clear h1
    induction h2 with
    | nil => rfl
    | cons r _ ih => rw [r, ih]; rfl
  rw [h1, e]
/-- a lock taken off -/
theorem same_unlock {H HL H' : Hp} {d : Addr} {u : HO} (hd : H d = some u) (k : ∀ b o, b ≠ d → H b = some o → HL b = some o) (s : Same HL H') : Same H (upd H' d u) := fun b o e => by
  by_cases b2 : b = d
  · subst b2
    rw [hd] at e
    cases e
    exact upd_same
  · rw [upd_ne b2]
    exact s _ _ (k b o b2 e)
/-- an item of held.items() -/
def HItm (C CA : Addr) (H : Hp) (v : V) (p : Txt × List Blk) : Prop := ∃ T u, v = .ref T ∧ H T = some (.tup [.str p.1, u]) ∧ AreaAt C CA H u p.2
theorem hitm_of {C CA : Addr} {kvs : List (Key × V)} {h : Held} {H1 H H' : Hp} {i : Nat} {x : V} {p : Txt × List Blk} (hp : Paired (EntR C CA H1) kvs h) (hi : h[i]? = some p) (s : Same H1 H)
    (y : YPair (fun i => kvs[i]?.map fun kv => kV kv.1) (fun i => kvs[i]?.map Prod.snd) i H x H') : Same H H' ∧ HItm C CA H' x p := by
  obtain ⟨T, x1, x2, rfl, hT, rfl, e1, e2⟩ := y
  have e1' : kvs[i]?.map (fun kv => kV kv.1) = some x1 := e1
  have e2' : kvs[i]?.map Prod.snd = some x2 := e2
  cases e : kvs[i]? with
  | none =>
    rw [e] at e1'
    cases e1'
  | some kv =>
    rw [e] at e1' e2'
    obtain rfl := Option.some.inj e1'
    obtain rfl := Option.some.inj e2'
    obtain ⟨p', hp', r⟩ := paired_getI hp e
    rw [hi] at hp'
    cases hp'
    refine ⟨same_new hT, T, kv.2, rfl, ?_, (r.2.same s).same (same_new hT)⟩
    rw [upd_same]
    show some (HO.tup [kV kv.1, kv.2]) = _
    rw [r.1]
    rfl
section
variable {P : Program} {w : World} {K : PySem.W.Frag} {mg : Str → Option Value} {base : Heap} {C CA CS : Addr}
abbrev sValue : Stmt := inClass (top 48) 5
abbrev NValue : List Str := ["self", "cell", "value", "area"]
theorem scValue : FnScope NValue ["self", "cell"] (defScope sValue) := ⟨rfl, rfl, rfl, by decide +kernel, rfl, by decide +kernel, by decide +kernel⟩
def spValue (C CA CS : Addr) : Sp := fun vs H Q _ => ∃ (v u : V) (h : Held) (n c : Int) (x : Txt) (r : List Txt), vs = [v, u] ∧ SheetAt C CA CS H v h ∧ CellAt H u n c ∧ h.length ≤ 60 ∧ (∀ p ∈ h, p.2.length ≤ 600) ∧ (h.filter fun p => hasB p.2 n c).map (·.1) = x :: r ∧ ∀ H', Same H H' → Q (.str x) H'
theorem ok_value {f : Addr} {fd : FuncData} (F : FnD K "value" "Sheet.value" sValue [] f fd) (me : Meth K CS "value" f) (B : Bi mg) (T : SK K mg CS) (c1 : C8.Cal P w K mg base 4 "checked_cell" spChkCell []) (cH : C8.Met P w K mg base 6 CA "has" (spAHas C CA) []) : C8.Met P w K mg base 7 CS "value" (spValue C CA CS) [] := by
  refine metD T.cl me F (F.bindsN fun _ _ _ _ _ _ us hl => match us, hl with | [_, _], _ => rfl) .nil scValue (fun vs H Q E h => ?_) (fun cdv A outer s H vs Q E hr h => ?_)
  · obtain ⟨v, u, h, n, c, x, r, rfl, _⟩ := h
    rfl
  · obtain ⟨v, u, h, n, c, x, r, rfl, ⟨a, dx, d, rfl, ha, kvs, hd, hent⟩, hc, zh, zf, hx, k⟩ := h
    refine ⟨_, pss_cons (ps_expr (C8.pe_c c1 hr (by decide) rfl (pa_cons (pv 1) pa_nil)))
      (pss_one (ps_ret (pe_ix ix_list (pe_lock (pe_lc (own := [("value", 2), ("area", 3)]) (g := gTup K 2 (gCons (gName 2) (gCons (gName 3) gNil))) rfl scValue.nd (pi_items (pe_fld (pv 0) rfl)) (blkOk_by (N := NValue) (sc := defScope sValue) (by decide +kernel))
        (fun _ _ _ _ _ => pg_tup rfl (pgs_cons (pg_name (i := 2) scValue.nd rfl (Or.inl rfl)) (pgs_cons (pg_name (i := 3) scValue.nd rfl (Or.inl rfl)) pgs_nil))) (fun _ _ _ _ _ => pts_one (pt_val (C8.pe_mt cH hr (by decide) (pv 3) (pa_cons (pv 1) pa_nil)))) (fun _ _ _ _ _ => pv 2))) pe_int (fun _ _ => rfl)))), ?_⟩
    refine ⟨_, rfl, u, n, c, rfl, hc, fun H1 s1 => ?_⟩
    have ha1 := s1 _ _ ha
    have hd1 := s1 _ _ hd
    have nad : a ≠ d := ne_of ha hd fun z => nomatch z
    refine ⟨d, .dK kvs, hd1, trivial, fun od => ?_⟩
    have sL : Same (delH' H1 d) (upd H1 d (.frz od (.dK kvs))) := del_upd
    have keepL : ∀ b o, b ≠ d → H1 b = some o → (upd H1 d (.frz od (.dK kvs))) b = some o := fun b o hb e => by rw [upd_ne hb]; exact e
    have haL : (upd H1 d (.frz od (.dK kvs))) a = some (.ins CS dx [("held", .ref d)]) := keepL _ _ nad ha1
    have hdL : (upd H1 d (.frz od (.dK kvs))) d = some (.frz od (.dK kvs)) := upd_same
    have hpL := paired_imp (fun kv p z => EntR.same sL (ent_delP hd1 rfl (EntR.same s1 z))) hent
    have hcL : CellAt (upd H1 d (.frz od (.dK kvs))) u n c := by
      obtain ⟨b, e1, e2, e3⟩ := hc.same s1
      exact ⟨b, e1, keepL _ _ (ne_of e2 hd1 fun z => nomatch z) e2, e3⟩
    generalize upd H1 d (.frz od (.dK kvs)) = HL at sL keepL haL hdL hpL hcL
    have hle : kvs.length = h.length := Paired.length hent
    refine ⟨_, rfl, a, CS, dx, _, _, rfl, haL, T.cl, T.nh, h_form, d, od, kvs, rfl, hdL, fun E hE => lc_genW (ms := h) (R := HItm C CA) (R' := StrV) (keep := fun p => hasB p.2 n c) (f := fun p => p.1) (hle ▸ walk_items) hE (fun H2 s2 => s2 _ _ hdL) (fun i x H2 H3 p hp s2 y => hitm_of hpL hp s2 y) (by omega) (fun _ h => h) (fun _ h => h) ?_ ?_⟩
    · rintro x p H2 hpm ⟨t, u2, rfl, ht, hu2⟩ s2 QT QF h1 h2
      obtain ⟨y, dy, ly, rfl, hy, hly⟩ := id hu2
      refine ⟨t, _, rfl, sqt ht, rfl, _, _, rfl, _, _, rfl, rfl, rfl, _, rfl, y, dy, _, rfl, hy, a_no (by decide +kernel), _, rfl, _, _, p.2, n, c, rfl, hu2, zf p hpm, hcL.same s2, fun H3 s3 => ⟨_, rfl, ?_⟩⟩
      cases e : hasB p.2 n c with
      | true => exact iteT (B := QF H3) ⟨_, rfl, h1 e _ H3 s3 rfl⟩
      | false => exact iteF (h2 e H3 s3)
    · intro H2 s2 hL
      have hE2 := lst_strs hL
      have hd2 := s2 _ _ hdL
      have nEd : E ≠ d := ne_of_none' hE hdL
      refine ⟨hd2, E, _, _, .str x, rfl, rfl, sql (by rw [upd_ne nEd]; exact hE2), ?_, ?_⟩
      · rw [show (h.filter fun p => hasB p.2 n c).map (fun p => p.1) = x :: r from hx]
        exact atI_nat (j := 0) rfl
      · exact k _ (s1.trans (same_unlock hd1 keepL s2))
abbrev sWhere : Stmt := inClass (top 48) 6
theorem scWhere : FnScope ["self", "value"] ["self", "value"] (defScope sWhere) := ⟨rfl, rfl, rfl, by decide +kernel, rfl, by decide +kernel, by decide +kernel⟩
def spWhere (C CA CS : Addr) : Sp := fun vs H Q _ => ∃ (v : V) (x : Str) (h : Held), vs = [v, .str x] ∧ SheetAt C CA CS H v h ∧ ValOk x ∧ ∀ H' z, Same H H' → AreaAt C CA H' z ((getH h x).getD []) → Q z H'
theorem ok_where {f : Addr} {fd : FuncData} (F : FnD K "where" "Sheet.where" sWhere [] f fd) (me : Meth K CS "where" f) (T : SK K mg CS) (cV : C8.Cal P w K mg base 1 "check_value" spChkV []) (cA : C8.Mak P w K mg base 7 "Area" CA (spAInit C CA) [.non]) : C8.Met P w K mg base 9 CS "where" (spWhere C CA CS) [] := by
  refine metD T.cl me F (F.bindsN fun _ _ _ _ _ _ us hl => match us, hl with | [_, _], _ => rfl) .nil scWhere (fun vs H Q E h => ?_) (fun cdv A outer s H vs Q E hr h => ?_)
  · obtain ⟨v, x, h, rfl, _⟩ := h
    rfl
  · obtain ⟨v, x, h, rfl, ⟨a, dx, d, rfl, ha, kvs, hd, hent⟩, hv, k⟩ := h
    refine ⟨_, pss_cons (ps_expr (C8.pe_c cV hr (by decide) rfl (pa_cons (pv 1) pa_nil)))
      (pss_one (ps_ret (pe_dget2 (hu_of hr) (pe_fld (pv 0) rfl) (pv 1) (pe_mk0 cA hr (by decide) rfl) ⟨rfl, rfl, rfl, rfl⟩))), ?_⟩
    refine ⟨_, rfl, x, rfl, hv, fun H1 s1 => ?_⟩
    refine ⟨_, rfl, a, CS, dx, _, _, rfl, s1 _ _ ha, T.cl, T.nh, h_form, d, rfl, .inl ⟨_, .inl (s1 _ _ hd)⟩, _, rfl, fun y dy hy hdy _ => ⟨y, dy, .non, [], [], [], rfl, upd_same, .inl ⟨rfl, rfl⟩, fine_nil [] [] (by decide) (by decide), fun H4 l4 _ keep4 hx4 hb4 => ⟨rfl, ?_⟩⟩⟩
    have s4 : Same H1 H4 := mk_keep hy hdy keep4
    have s5 := s1.trans s4
    refine ⟨_, DGet.k (k := Sum.inr x) (s5 _ _ hd), ?_⟩
    have hp4 := paired_imp (fun _ _ z => EntR.same s5 z) hent
    have q := ent_getH hp4 x
    cases e1 : valV kvs (Sum.inr x : Key) with
    | none =>
      cases e2 : getH h x with
      | none =>
        rw [e2] at k
        exact k H4 _ s5 (aInit_at (H := H4) hx4 (by rw [areaOf_nil] at hb4; exact hb4))
      | some b => rw [e1, e2] at q; exact q.elim
    | some z =>
      cases e2 : getH h x with
      | none => rw [e1, e2] at q; exact q.elim
      | some b =>
        rw [e1, e2] at q
        rw [e2] at k
        exact k H4 _ s5 q
abbrev sTold : Stmt := inClass (top 48) 7
theorem scTold : FnScope ["self"] ["self"] (defScope sTold) := ⟨rfl, rfl, rfl, by decide +kernel, rfl, by decide +kernel, by decide +kernel⟩
def spTold (C CA CS : Addr) : Sp := fun vs H Q _ => ∃ (v : V) (h : Held), vs = [v] ∧ SheetAt C CA CS H v h ∧ h.length ≤ 60 ∧ ∀ H' p ys, Same H H' → H p = none → ys.Perm (keysH h) → sortedS ys = true → H' p = some (.lst (ys.map V.str)) → Q (.ref p) H'
theorem ok_told {f : Addr} {fd : FuncData} (F : FnD K "told" "Sheet.told" sTold [] f fd) (me : Meth K CS "told" f) (B : Bi mg) (T : SK K mg CS) : C8.Met P w K mg base 1 CS "told" (spTold C CA CS) [] := by
  refine metD T.cl me F (F.bindsN fun _ _ _ _ _ _ us hl => match us, hl with | [_], _ => rfl) .nil scTold (fun vs H Q E h => ?_) (fun cdv A outer s H vs Q E hr h => ?_)
  · obtain ⟨v, h, rfl, _⟩ := h
    rfl
  · obtain ⟨v, h, rfl, ⟨a, dx, d, rfl, ha, kvs, hd, hent⟩, zh, k⟩ := h
    refine ⟨_, pss_one (ps_ret (pe_callB (call_sortedD rfl) rfl B.sorted (by decide +kernel) (pa_cons (pe_fld (pv 0) rfl) pa_nil))), ?_⟩
    have ek : kvs.map (·.1) = (keysH h).map Sum.inr := by
      clear hd zh k
      induction hent with
      | nil => rfl
      | @cons kv q kvs h r _ ih =>
        show kv.1 :: kvs.map (·.1) = Sum.inr q.1 :: (keysH h).map Sum.inr
        rw [r.1, ih]
    refine ⟨_, rfl, a, CS, dx, _, _, rfl, ha, T.cl, T.nh, h_form, d, kvs, keysH h, rfl, .inl hd, ek, ?_, fun ys p hpm hso hp => k _ p ys (same_new hp) hp hpm hso upd_same⟩
    unfold keysH
    rw [List.length_map]
    omega
end
end CB
end
section
set_option maxHeartbeats 4000000
/-! Sheet: pairs, __len__, twin -/
namespace CB
open PySem PySem.Spec PyProof.Rows L2 CBM
theorem part_del {C : Addr} {H : Hp} {D : Addr} {acc : List V} {v : V} {p : Blk × Str} (hD : H D = some (.lst acc)) (h : PartAt C H v p) : PartAt C (delH' H D) v p := let ⟨a, u, h1, h2, h3⟩ := h; ⟨a, u, h1, by rw [del_ne (ne_of h2 hD fun z => nomatch z)]; exact h2, blk_del hD h3⟩
section
variable {P : Program} {w : World} {K : PySem.W.Frag} {mg : Str → Option Value} {base : Heap} {C CA CS : Addr}
abbrev sFPart : Stmt := top 47
theorem scFPart : FnScope ["part"] ["part"] (defScope sFPart) := ⟨rfl, rfl, rfl, by decide +kernel, rfl, by decide +kernel, by decide +kernel⟩
def spFPart (C : Addr) : Sp := fun vs H Q _ => ∃ a u r b, vs = [.ref a] ∧ H a = some (.tup (u :: r)) ∧ BlkAt C H u b ∧ ∀ H' p, Same H H' → H p = none → H' p = some (.tup [.int b.t, .int b.l]) → Q (.ref p) H'
theorem fn_fpart {f : Addr} {fd : FuncData} (F : FnD K "first_of_part" "first_of_part" sFPart [] f fd) (c1 : C8.Cal P w K mg base 1 "first_cell" (spFirst C) []) : FnOk P w K mg base C8.CX0 2 f fd ["part"] (spFPart C) := by
  refine F.ok scFPart (fun vs H Q E h => ?_) (fun cdv A outer s H vs Q E hr h => ?_)
  · obtain ⟨a, u, r, b, rfl, _⟩ := h
    rfl
  · obtain ⟨a, u, r, b, rfl, ha, hb, k⟩ := h
    refine ⟨_, PSs.nox (pss_one (ps_ret (C8.pe_c c1 hr (by decide) rfl (pa_cons (pe_ix ix_tup (pv 0) pe_int (fun _ _ => rfl)) pa_nil)))), ?_⟩
    exact ⟨_, rfl, a, _, _, _, rfl, rfl, sqt ha, atI_nat (j := 0) rfl, _, b, rfl, hb, k⟩
theorem bn_fpart {f : Addr} {fd : FuncData} (F : FnD K "first_of_part" "first_of_part" sFPart [] f fd) : Binds K fd ["part"] [] := F.bindsN fun _ _ _ _ _ _ us hl => match us, hl with | [_], _ => rfl
abbrev sPairs : Stmt := inClass (top 48) 8
abbrev NPairs : List Str := ["self", "found", "value", "area", "block"]
theorem scPairs : FnScope NPairs ["self"] (defScope sPairs) := ⟨rfl, rfl, rfl, by decide +kernel, rfl, by decide +kernel, by decide +kernel⟩
def spPairs (C CA CS : Addr) : Sp := fun vs H Q _ => ∃ (v : V) (h : Held), vs = [v] ∧ SheetAt C CA CS H v h ∧ h.length ≤ 60 ∧ (∀ p ∈ h, p.2.length ≤ 600) ∧ ∀ H' p, Same H H' → H p = none → LstOf (PartAt C) H' p (pairsH h) → Q (.ref p) H'
theorem parts_take {h : Held} {i : Nat} {p : Txt × List Blk} (hp : h[i]? = some p) : partsH (h.take (i + 1)) = partsH (h.take i) ++ (if p.1 = PySem.Str.ofString "" then [] else p.2.map fun b => (b, p.1)) := by
  unfold partsH
  rw [take_succ' hp, List.filter_append, List.flatMap_append]
  congr 1
  by_cases e : p.1 = PySem.Str.ofString ""
  · simp [e]
  · simp [e]
theorem parts_len {h : Held} : (∀ p ∈ h, p.2.length ≤ 600) → (partsH h).length ≤ 600 * h.length := by
  induction h with
  | nil => intro _; exact Nat.le_refl _
  | cons p h ih =>
    intro hz
    have h1 := ih fun q hq => hz q (List.mem_cons_of_mem _ hq)
    have h2 := hz p (List.mem_cons_self ..)
    unfold partsH at h1 ⊢
    rw [List.filter_cons, List.length_cons]
    split
    · rw [List.flatMap_cons, List.length_append, List.length_map]
      omega
    · omega
theorem ok_pairs {f f1 : Addr} {fd fd1 : FuncData} (F : FnD K "pairs" "Sheet.pairs" sPairs [] f fd) (me : Meth K CS "pairs" f) (B : Bi mg) (T : SK K mg CS) (cBl : C8.Met P w K mg base 1 CA "blocks" (spABlocks C CA) [])
    (F1 : FnD K "first_of_part" "first_of_part" sFPart [] f1 fd1) (g1 : mg "first_of_part" = some (.ref f1)) (c1 : C8.Cal P w K mg base 1 "first_cell" (spFirst C) []) : C8.Met P w K mg base 5 CS "pairs" (spPairs C CA CS) [] := by
  have G1 : FnOk P w K mg base C8.CX0 2 f1 fd1 ["part"] (spFPart C) := fn_fpart F1 c1
  refine metD T.cl me F (F.bindsN fun _ _ _ _ _ _ us hl => match us, hl with | [_], _ => rfl) .nil scPairs (fun vs H Q E h => ?_) (fun cdv A outer s H vs Q E hr h => ?_)
  · obtain ⟨v, h, rfl, _⟩ := h
    rfl
  · obtain ⟨v, h, rfl, ⟨a, dx, d, rfl, ha, kvs, hd, hent⟩, zh, zf, k⟩ := h
    refine ⟨_, pss_cons (ps_set (i := 1) scPairs.nd rfl (Or.inl rfl) (pe_lst pa_nil))
      (pss_cons (ps_lock (ps_for PassesOwn.never rfl (pi_items (pe_fld (pv 0) rfl)) (pg_tup rfl (pgs_cons (pg_name (i := 2) scPairs.nd rfl (.inr rfl)) (pgs_cons (pg_name (i := 3) scPairs.nd rfl (.inl rfl)) pgs_nil)))
        (pss_one (ps_if (pt_cmpR op_ne (pv 2) pe_str (nomark _))
          (pss_one (ps_expr (pe_bm PySem.F.plainAttrs_list PySem.F.slot_list_extend PySem.F.type_list_extend mt_extend (pv 1) (pa_cons
            (pe_lc (own := [("block", 4)]) (g := gName 4) (tt := tYes) rfl scPairs.nd (pi_list (C8.pe_mt0 cBl hr (by decide) (pv 3))) (blkOk_by (N := NPairs) (sc := defScope sPairs) (by decide +kernel))
              (fun _ _ _ _ _ => pg_name (i := 4) scPairs.nd rfl (Or.inl rfl)) (fun _ _ _ _ _ => pts_nil) (fun _ _ _ _ _ => pe_tup (pa_cons (pv 4) (pa_cons (pv 2) pa_nil)))) pa_nil)))) pss_nil))))
      (pss_one (ps_ret (pe_callBK (cr_sortedK G1 (bn_fpart F1) (hr.mono (by decide))) rfl B.sorted (by decide +kernel) (pa_cons (pv 1) pa_nil) (pk_cons (C8.pe_gc (v := .ref f1) rfl ⟨_, g1, rfl⟩) pk_nil))))), ?_⟩
    refine ⟨Nat.zero_le _, fun D hD => ?_⟩
    have ndD : d ≠ D := ne_of_none hd hD
    have naD : a ≠ D := ne_of_none ha hD
    have nad : a ≠ d := ne_of ha hd fun z => nomatch z
    refine ⟨d, .dK kvs, by rw [upd_ne ndD]; exact hd, trivial, fun od => ?_⟩
    have s00 : Same (delH' H d) (delH' (upd (upd H D (.lst [])) d (.frz od (.dK kvs))) D) := fun c o e => by
      by_cases c2 : c = d
      · rw [c2, del_self] at e
        cases e
      rw [del_ne c2] at e
      have c3 : c ≠ D := ne_of_none e hD
      rw [del_ne c3, upd_ne c2, upd_ne c3]
      exact e
    have hp0 := paired_imp (fun kv p z => EntR.same s00 (ent_delP hd rfl z)) hent
    have hd0 : (delH' (upd (upd H D (.lst [])) d (.frz od (.dK kvs))) D) d = some (.frz od (.dK kvs)) := by rw [del_ne ndD, upd_same]
    have hDL : (upd (upd H D (.lst [])) d (.frz od (.dK kvs))) D = some (.lst []) := by rw [upd_ne ndD.symm, upd_same]
    have hdL : (upd (upd H D (.lst [])) d (.frz od (.dK kvs))) d = some (.frz od (.dK kvs)) := upd_same
    have haL : (upd (upd H D (.lst [])) d (.frz od (.dK kvs))) a = some (.ins CS dx [("held", .ref d)]) := by rw [upd_ne nad, upd_ne naD]; exact ha
    have sub0 : Same (delH' (upd (upd H D (.lst [])) d (.frz od (.dK kvs))) D) (upd (upd H D (.lst [])) d (.frz od (.dK kvs))) := del_sub
    have nD0 : (delH' (upd (upd H D (.lst [])) d (.frz od (.dK kvs))) D) D = none := del_self
    have keep0 : ∀ b o, b ≠ d → H b = some o → (delH' (upd (upd H D (.lst [])) d (.frz od (.dK kvs))) D) b = some o := fun b o b2 e => by
      have b3 := ne_of_none e hD
      rw [del_ne b3, upd_ne b2, upd_ne b3]
      exact e
    clear s00
    refine ⟨_, rfl, a, CS, dx, _, _, rfl, haL, T.cl, T.nh, h_form, d, od, kvs, rfl, hdL, ?_⟩
    generalize delH' (upd (upd H D (.lst [])) d (.frz od (.dK kvs))) D = H0 at hp0 hd0 sub0 nD0 keep0
    generalize upd (upd H D (.lst [])) d (.frz od (.dK kvs)) = HL at hDL hdL haL sub0
    refine for_itemsG (E := EntR C CA) (H0 := H0) hd0 hp0 (fun i σ H2 => ∃ vv ar, σ = [some (.ref a), some (.ref D), vv, ar, none] ∧ Same H0 H2 ∧ LstOf (PartAt C) H2 D (partsH (h.take i)))
      ⟨_, _, rfl, sub0, by rw [List.take_zero]; exact ⟨[], hDL, .nil⟩⟩ (fun i σ H2 ⟨_, _, _, s2, _⟩ => s2) ?_ ?_
    · rintro i ⟨ky, u⟩ p t σ H2 hi hp ⟨hk, hu'⟩ ⟨v', ar', rfl, s2, acc, hD2, hp2⟩ ht
      dsimp only at hk hu'
      subst hk
      refine ⟨t, _, rfl, sqt upd_same, rfl, _, _, rfl, _, _, rfl, rfl, ?_⟩
      have s3 : Same H2 (upd H2 t (.tup [.str p.1, u])) := same_new ht
      have sa : Same H0 (upd H2 t (.tup [.str p.1, u])) := s2.trans s3
      have hD3 := s3 _ _ hD2
      have hp3 := paired_imp (fun _ _ z => PartAt.same s3 z) hp2
      have hu3 := hu'.same sa
      have hz : p.2.length ≤ 600 := zf p (List.mem_of_getElem? hp)
      have et := parts_take hp
      show (tIfS _ _ _) _ _ (upd H2 t (.tup [.str p.1, u]))
      generalize upd H2 t (.tup [.str p.1, u]) = H3 at s3 sa hD3 hp3 hu3
      refine ⟨_, rfl, rfl, _, rfl, ?_⟩
      have e1 : (!decide (V.str p.1 = V.str (PySem.Str.ofString ""))) = !decide (p.1 = PySem.Str.ofString "") := by
        by_cases e : p.1 = PySem.Str.ofString "" <;> simp [e]
      show if (!decide (V.str p.1 = V.str (PySem.Str.ofString ""))) = true then _ else _
      rw [e1]
      by_cases e : p.1 = PySem.Str.ofString ""
      · rw [if_pos e, List.append_nil] at et
        rw [decide_eq_true e]
        exact iteF ⟨_, _, rfl, sa, by rw [et]; exact ⟨acc, hD3, hp3⟩⟩
      · rw [if_neg e] at et
        rw [decide_eq_false e]
        refine iteT ?_
        obtain ⟨x, dxa, la, rfl, hx, hla⟩ := id hu3
        refine ⟨_, rfl, Or.inl ⟨rfl, _, sql hD3⟩, ?_⟩
        refine ⟨_, rfl, x, dxa, _, rfl, hx, a_no (by decide +kernel), _, p.2, rfl, hu3, fun H4 q4 s4 hq4 ⟨xs4, hx4, hb4⟩ => ⟨q4, rfl, ⟨_, sql hx4⟩, fun E hE => lc_gen (R := BlkAt C) (R' := PartAt C) (keep := fun _ => true) (f := fun b : Blk => (b, p.1)) hE (sql hx4) hb4 (by omega) (fun s h => BlkAt.same s h) (fun s h => PartAt.same s h) part_del ?_ ?_⟩⟩
        · rintro y m H5 _ hy s5 QT QF h1 h2
          exact ⟨rfl, iteT (B := QF H5) ⟨_, rfl, _, rfl, (by show 2 ≤ sizeLine; decide), fun q hq => h1 rfl _ _ (same_new hq) ⟨q, _, rfl, upd_same, hy.same (same_new hq)⟩⟩⟩
        · intro H5 s5 hL
          rw [filtT] at hL
          obtain ⟨ys, hE5, hy5⟩ := hL
          have s45 := s4.trans s5
          have hD5 := s45 _ _ hD3
          have hp5 := paired_imp (fun _ _ z => PartAt.same s45 z) hp3
          have l1 := Paired.length hp5
          have l2 := Paired.length hy5
          rw [List.length_map] at l2
          have l3 := parts_len (h := h.take i) fun q hq => zf q (List.mem_of_mem_take hq)
          have l4 : (h.take i).length ≤ h.length := List.length_take_le' i h
          refine ⟨D, E, acc, ys, rfl, rfl, hD5, hE5, sz_le (by omega), _, _, rfl, sm_mut (sa.trans s45) nD0, ?_⟩
          rw [et]
          exact ⟨_, upd_same, paired_imp (fun _ _ z => PartAt.same del_upd (part_del hD5 z)) (paired_app hp5 hy5)⟩
    · rintro σ H2 ⟨v', ar', rfl, s2, acc, hD2, hp2⟩
      rw [List.take_of_length_le (Nat.le_refl _)] at hp2
      have hd2 := s2 _ _ hd0
      refine ⟨hd2, ?_⟩
      have hD3 : (upd H2 d (.dK kvs)) D = some (.lst acc) := by rw [upd_ne ndD.symm]; exact hD2
      have hp3 : Paired (PartAt C (upd H2 d (.dK kvs))) acc (partsH h) := paired_imp (fun v p ⟨y, u, z1, z2, z3⟩ => ⟨y, u, z1, by rw [upd_ne (ne_of z2 hd2 fun z => nomatch z)]; exact z2, BlkAt.same (del_upd (o := .dK kvs)) (blk_delX hd2 (fun _ _ _ z => nomatch z) z3)⟩) hp2
      have s3 : Same H (upd H2 d (.dK kvs)) := same_unlock hd keep0 s2
      generalize upd H2 d (.dK kvs) = H3 at hD3 hp3 s3
      refine ⟨_, rfl, (Blk × Str), partsH h, fun p => p.1.t, fun p => p.1.l, PartAt C H3, D, _, rfl, rfl, sql hD3, hp3, fun x p _ hx H8 e8 Q' hQ' => ?_, fun ys p H8 e8 hp hp8 hys => ?_⟩
      · obtain ⟨y, u, rfl, hy, hu⟩ := PartAt.same e8 hx
        exact ⟨y, u, [.str p.2], p.1, rfl, hy, hu, fun H9 q s9 hq hq9 => hQ' _ _ s9 (.tup (sqt hq9) (.cons (.int _) (.cons (.int _) .nil)))⟩
      · exact k H8 p (s3.trans e8) (s3.free hp) ⟨ys, hp8, paired_imp (fun _ _ z => PartAt.same e8 z) hys⟩
abbrev sSLen : Stmt := inClass (top 48) 2
theorem scSLen : FnScope ["self"] ["self"] (defScope sSLen) := ⟨rfl, rfl, rfl, by decide +kernel, rfl, by decide +kernel, by decide +kernel⟩
def spSLen (C CA CS : Addr) : Sp := fun vs H Q _ => ∃ (v : V) (h : Held), vs = [v] ∧ SheetAt C CA CS H v h ∧ h.length ≤ 60 ∧ (∀ p ∈ h, p.2.length ≤ 600) ∧ ∀ H', Same H H' → Q (.int (pairsH h).length) H'
theorem fn_slen {f : Addr} {fd : FuncData} (F : FnD K "__len__" "Sheet.__len__" sSLen [] f fd) (B : Bi mg) (T : SK K mg CS) (cP : C8.Met P w K mg base 5 CS "pairs" (spPairs C CA CS) []) : FnOk P w K mg base C8.CX0 6 f fd ["self"] (spSLen C CA CS) := by
  refine F.ok scSLen (fun vs H Q E h => ?_) (fun cdv A outer s H vs Q E hr h => ?_)
  · obtain ⟨v, h, rfl, _⟩ := h
    rfl
  · obtain ⟨v, h, rfl, hS, zh, zf, k⟩ := h
    obtain ⟨a, dx, d, rfl, ha, hd⟩ := id hS
    refine ⟨_, PSs.nox (pss_one (ps_ret (pe_callB call_len rfl B.len PySem.boot_len (pa_cons (C8.pe_mt0 cP hr (by decide) (pv 0)) pa_nil)))), ?_⟩
    refine ⟨_, rfl, a, dx, _, rfl, ha, h_no (by decide +kernel), _, h, rfl, hS, zh, zf, fun H1 p s1 hp ⟨xs, hx, hpx⟩ => ⟨_, xs.length, rfl, Or.inl ⟨_, sql hx, rfl⟩, ?_⟩⟩
    rw [Paired.length hpx]
    exact k H1 s1
abbrev sTwin : Stmt := inClass (top 48) 11
theorem scTwin : FnScope ["self", "found"] ["self"] (defScope sTwin) := ⟨rfl, rfl, rfl, by decide +kernel, rfl, by decide +kernel, by decide +kernel⟩
def spTwin (C CA CS : Addr) : Sp := fun vs H Q _ => ∃ (v : V) (h : Held), vs = [v] ∧ SheetAt C CA CS H v h ∧ (keysH h).Nodup ∧ h.length ≤ 60 ∧ (∀ p ∈ h, p.2.length ≤ 600) ∧ ∀ H' x dx d, Same H H' → H x = none → H' x = some (.ins CS dx [("held", .ref d)]) → DictAt C CA H' d (holdH h) → Q (.ref x) H'
theorem ok_twin {f : Addr} {fd : FuncData} (F : FnD K "twin" "Sheet.twin" sTwin [] f fd) (me : Meth K CS "twin" f) (T : SK K mg CS) (cS : C8.Mak P w K mg base 9 "Sheet" CS (spSInit C CA CS) []) (cH : C8.Met P w K mg base 3 CS "hold" (spHold C CA CS) []) : C8.Met P w K mg base 11 CS "twin" (spTwin C CA CS) [] := by
  refine metD T.cl me F (F.bindsN fun _ _ _ _ _ _ us hl => match us, hl with | [_], _ => rfl) .nil scTwin (fun vs H Q E h => ?_) (fun cdv A outer s H vs Q E hr h => ?_)
  · obtain ⟨v, h, rfl, _⟩ := h
    rfl
  · obtain ⟨v, h, rfl, hS, nd, zh, zf, k⟩ := h
    obtain ⟨a, dx, d, rfl, ha, hd⟩ := id hS
    refine ⟨_, pss_cons (ps_set (i := 1) scTwin.nd rfl (Or.inl rfl) (pe_mk0 cS hr (by decide) rfl))
      (pss_cons (ps_expr (C8.pe_mt cH hr (by decide) (pv 1) (pa_cons (pe_fld (pv 0) rfl) pa_nil)))
      (pss_one (ps_ret (pv 1)))), ?_⟩
    refine fun x dx2 hx hdx _ => ⟨x, dx2, rfl, upd_same, fun H1 d1 keep1 hx1 hd1 => ⟨rfl, ?_⟩⟩
    have s1 : Same H H1 := mk_keep hx hdx keep1
    have ha1 := s1 _ _ ha
    refine ⟨_, rfl, x, dx2, _, rfl, hx1, h_no (by decide +kernel), _, rfl, a, CS, dx, _, _, rfl, ha1, T.cl, T.nh, h_form, x, dx2, d, .ref d1, h, rfl, hx1, hd.same s1, nd, zh, zf, fun H2 d2 keep2 hx2 hd2 => ?_⟩
    exact ⟨_, rfl, k H2 x dx2 d2 (fun b o e => keep2 b o (ne_of_none e hx) (s1 _ _ e)) hx hx2 hd2⟩
end
end CB
end
section
set_option maxHeartbeats 4000000
/-! unlike, unlike_area -/
namespace CB
open PySem PySem.Spec PyProof.Rows L2 CBM
def TriAt (C : Addr) (H : Hp) (v : V) (p : Tri) : Prop := ∃ a u, v = .ref a ∧ H a = some (.tup [u, .str p.2.1, .str p.2.2]) ∧ BlkAt C H u p.1
theorem TriAt.same {C : Addr} {H H' : Hp} {v : V} {p : Tri} (e : Same H H') (h : TriAt C H v p) : TriAt C H' v p := let ⟨a, u, h1, h2, h3⟩ := h; ⟨a, u, h1, e _ _ h2, h3.same e⟩
theorem tri_del {C : Addr} {H : Hp} {D : Addr} {acc : List V} {v : V} {p : Tri} (hD : H D = some (.lst acc)) (h : TriAt C H v p) : TriAt C (delH' H D) v p := let ⟨a, u, h1, h2, h3⟩ := h; ⟨a, u, h1, by rw [del_ne (ne_of h2 hD fun z => nomatch z)]; exact h2, blk_del hD h3⟩
theorem szB {n : Nat} (h : n ≤ 4000000) : n ≤ sizeLine := Nat.le_trans h (by decide)
/-- a sheet that the program can work with -/
structure HeldOk (rs cs : List Int) (h : Held) : Prop where
  r : rs.length ≤ 20
  c : cs.length ≤ 20
  fine : ∀ p ∈ h, Fine rs cs p.2
  vals : ∀ p ∈ h, ValOk p.1
  nd : (keysH h).Nodup
  few : h.length ≤ 40
theorem HeldOk.wh {rs cs : List Int} {h : Held} (x : HeldOk rs cs h) (v : Txt) : Fine rs cs (whereH h v) := by
  unfold whereH getH
  cases e : h.find? (fun p => decide (p.1 = v)) with
  | none => exact fine_nil rs cs x.r x.c
  | some p => exact x.fine p (List.mem_of_find?_eq_some e)
theorem HeldOk.len {rs cs : List Int} {h : Held} (x : HeldOk rs cs h) : ∀ p ∈ h, p.2.length ≤ 600 := fun p hp => by
  have := (x.fine p hp).2.2.2
  omega
theorem keys_ok {rs cs : List Int} {h : Held} (x : HeldOk rs cs h) : ∀ v ∈ sortT (keysH h), ValOk v := fun v hv => by
  obtain ⟨p, hp, rfl⟩ := List.mem_map.mp ((sortT_perm _).mem_iff.mp hv)
  exact x.vals p hp
theorem sortT_len (h : Held) : (sortT (keysH h)).length = h.length := by
  rw [(sortT_perm _).length_eq]
  unfold keysH
  rw [List.length_map]
theorem strV_all {H : Hp} : ∀ ns : List Str, Paired (StrV H) (ns.map V.str) ns
  | [] => .nil
  | _ :: ns => .cons rfl (strV_all ns)
theorem inU_len {rs cs : List Int} {h1 h2 : Held} (ok1 : HeldOk rs cs h1) (ok2 : HeldOk rs cs h2) (v s : Txt) : (inU h2 v (unlA h1 h2 v) s).length ≤ 400 := by
  unfold inU
  split
  · rw [List.length_map]
    exact (fine_areaK kAnd (fine_areaK kSub (ok1.wh v) (ok2.wh v)) (ok2.wh s)).2.2.2
  · exact Nat.zero_le _
section
variable {P : Program} {w : World} {K : PySem.W.Frag} {mg : Str → Option Value} {base : Heap} {C CA CS : Addr}
abbrev sUnl : Stmt := top 49
abbrev NUnl : List Str := ["one", "other", "found", "value", "rest", "second", "area", "block"]
theorem scUnl : FnScope NUnl ["one", "other"] (defScope sUnl) := ⟨rfl, rfl, rfl, by decide +kernel, rfl, by decide +kernel, by decide +kernel⟩
def spUnl (C CA CS : Addr) : Sp := fun vs H Q _ => ∃ (v u : V) (h1 h2 : Held) (rs cs : List Int), vs = [v, u] ∧ SheetAt C CA CS H v h1 ∧ SheetAt C CA CS H u h2 ∧ HeldOk rs cs h1 ∧ HeldOk rs cs h2 ∧ ∀ H' p, Same H H' → H p = none → LstOf (TriAt C) H' p (unlikeH h1 h2) → Q (.ref p) H'
theorem ok_unl {f f1 fl : Addr} {fd fd1 fdl : FuncData} (F : FnD K "unlike" "unlike" sUnl [] f fd) (g : mg "unlike" = some (.ref f)) (B : Bi mg) (T : SK K mg CS) (TA : AK K mg CA) (cC : C8.Cal P w K mg base 1 "check_sheet" (spChkA CS) []) (cT : C8.Met P w K mg base 1 CS "told" (spTold C CA CS) []) (cW : C8.Met P w K mg base 9 CS "where" (spWhere C CA CS) [])
    (cO : C8.Met P w K mg base 10 CA "without" (spAK C CA kSub) []) (cM : C8.Met P w K mg base 10 CA "met" (spAK C CA kAnd) []) (cBl : C8.Met P w K mg base 1 CA "blocks" (spABlocks C CA) []) (Fl : FnD K "__len__" "Area.__len__" sALen [] fl fdl) (ml : Meth K CA "__len__" fl)
    (F1 : FnD K "first_of_part" "first_of_part" sFPart [] f1 fd1) (g1 : mg "first_of_part" = some (.ref f1)) (c1 : C8.Cal P w K mg base 1 "first_cell" (spFirst C) []) : C8.Cal P w K mg base 11 "unlike" (spUnl C CA CS) [] := by
  have G1 : FnOk P w K mg base C8.CX0 2 f1 fd1 ["part"] (spFPart C) := fn_fpart F1 c1
  have Gl : FnOk P w K mg base C8.CX0 1 fl fdl ["self"] (spALen C CA) := fn_alen Fl B TA
  have bl : Binds K fdl ["self"] [] := Fl.bindsN fun _ _ _ _ _ _ us hl => match us, hl with | [_], _ => rfl
  refine calD F g (F.bindsN fun _ _ _ _ _ _ us hl => match us, hl with | [_, _], _ => rfl) .nil scUnl (fun vs H Q E h => ?_) (fun cdv A outer s H vs Q E hr h => ?_)
  · obtain ⟨v, u, h1, h2, rs, cs, rfl, _⟩ := h
    rfl
  · obtain ⟨v, u, h1, h2, rs, cs, rfl, hS1, hS2, ok1, ok2, k⟩ := h
    obtain ⟨a1, dx1, d1, rfl, ha1, hd1⟩ := id hS1
    obtain ⟨a2, dx2, d2, rfl, ha2, hd2⟩ := id hS2
    refine ⟨_, pss_cons (ps_expr (C8.pe_c cC hr (by decide) rfl (pa_cons (pv 0) pa_nil)))
      (pss_cons (ps_expr (C8.pe_c cC hr (by decide) rfl (pa_cons (pv 1) pa_nil)))
      (pss_cons (ps_set (i := 2) scUnl.nd rfl (Or.inl rfl) (pe_lst pa_nil))
      (pss_cons (ps_for PassesOwn.never rfl (pi_list (C8.pe_mt0 cT hr (by decide) (pv 0))) (pg_name (i := 3) scUnl.nd rfl (Or.inr rfl))
        (pss_cons (ps_set (i := 4) scUnl.nd rfl (Or.inl rfl) (C8.pe_mt cO hr (by decide) (C8.pe_mt cW hr (by decide) (pv 0) (pa_cons (pv 3) pa_nil)) (pa_cons (C8.pe_mt cW hr (by decide) (pv 1) (pa_cons (pv 3) pa_nil)) pa_nil)))
        (pss_one (ps_for PassesOwn.never rfl (pi_list (C8.pe_mt0 cT hr (by decide) (pv 1))) (pg_name (i := 5) scUnl.nd rfl (Or.inr rfl))
          (pss_one (ps_if (PW.pt (pw_and (pt_cmpR op_ne (pv 5) (pv 3) (nomark _)) (pw_and1 (pt_cmpR op_gt (pe_callB (call_lenO Gl ml.at_ ml.fn bl (E := C8.E0) C8.pass0 (hr.mono (by decide))) rfl B.len PySem.boot_len (pa_cons (pv 4) pa_nil)) pe_int (nomark _)))))
            (pss_cons (ps_set (i := 6) scUnl.nd rfl (Or.inl rfl) (C8.pe_mt cM hr (by decide) (pv 4) (pa_cons (C8.pe_mt cW hr (by decide) (pv 1) (pa_cons (pv 5) pa_nil)) pa_nil)))
            (pss_one (ps_expr (pe_bm PySem.F.plainAttrs_list PySem.F.slot_list_extend PySem.F.type_list_extend mt_extend (pv 2) (pa_cons
              (pe_lc (own := [("block", 7)]) (g := gName 7) (tt := tYes) rfl scUnl.nd (pi_list (C8.pe_mt0 cBl hr (by decide) (pv 6))) (blkOk_by (N := NUnl) (sc := defScope sUnl) (by decide +kernel))
                (fun _ _ _ _ _ => pg_name (i := 7) scUnl.nd rfl (Or.inl rfl)) (fun _ _ _ _ _ => pts_nil) (fun _ _ _ _ _ => pe_tup (pa_cons (pv 7) (pa_cons (pv 3) (pa_cons (pv 5) pa_nil))))) pa_nil))))) pss_nil))))))
      (pss_one (ps_ret (pe_callBK (cr_sortedK G1 (bn_fpart F1) (hr.mono (by decide))) rfl B.sorted (by decide +kernel) (pa_cons (pv 2) pa_nil) (pk_cons (C8.pe_gc (v := .ref f1) rfl ⟨_, g1, rfl⟩) pk_nil))))))), ?_⟩
    refine ⟨_, rfl, a1, dx1, _, rfl, ha1, _, rfl, a2, dx2, _, rfl, ha2, Nat.zero_le _, fun D hD => ?_⟩
    have s0 : Same H (upd H D (.lst [])) := same_new hD
    have hD1 : (upd H D (.lst [])) D = some (.lst []) := upd_same
    generalize upd H D (.lst []) = H1 at s0 hD1
    refine ⟨_, rfl, a1, dx1, _, rfl, s0 _ _ ha1, h_no (by decide +kernel), _, h1, rfl, hS1.same s0, by have := ok1.few; omega, fun H2 p2 ys s2 hp2 hpm hso hy => ?_⟩
    obtain rfl := sortT_of hpm (sortedS_pw hso)
    have hD2 := s2 _ _ hD1
    have np2 : p2 ≠ D := ne_of_none' hp2 hD1
    have sH0 : Same H (delH' H2 D) := del_same (s0.trans s2) hD
    have hy0 : (delH' H2 D) p2 = some (.lst ((sortT (keysH h1)).map V.str)) := by rw [del_ne np2]; exact hy
    have sub0 : Same (delH' H2 D) H2 := del_sub
    have nD0 : (delH' H2 D) D = none := del_self
    refine ⟨p2, rfl, ⟨_, sql hy⟩, ?_⟩
    generalize delH' H2 D = H0 at sH0 hy0 sub0 nD0
    have hS10 := hS1.same sH0
    have hS20 := hS2.same sH0
    refine for_listG0 (H0 := H0) (R := StrV) (sql hy0) (strV_all _) (fun i σ H3 => ∃ v r s ar, σ = [some (.ref a1), some (.ref a2), some (.ref D), v, r, s, ar, none] ∧ Same H0 H3 ∧ LstOf (TriAt C) H3 D (((sortT (keysH h1)).take i).flatMap fun v => (sortT (keysH h2)).flatMap (inU h2 v (unlA h1 h2 v))))
      ⟨_, _, _, _, rfl, sub0, by rw [List.take_zero]; exact ⟨[], hD2, .nil⟩⟩ (fun i σ H3 ⟨_, _, _, _, _, s3, _⟩ => s3) ?_ ?_
    · rintro i x vv σ H3 hi hvv rfl ⟨v', r', s', ar', rfl, s3, hac⟩
      have hvm : vv ∈ sortT (keysH h1) := List.mem_of_getElem? hvv
      have hvok := keys_ok ok1 vv hvm
      have et : ((sortT (keysH h1)).take (i + 1)).flatMap (fun v => (sortT (keysH h2)).flatMap (inU h2 v (unlA h1 h2 v))) = ((sortT (keysH h1)).take i).flatMap (fun v => (sortT (keysH h2)).flatMap (inU h2 v (unlA h1 h2 v))) ++ (sortT (keysH h2)).flatMap (inU h2 vv (unlA h1 h2 vv)) := by
        rw [take_succ' hvv, List.flatMap_append]
        simp
      have lacc : (((sortT (keysH h1)).take i).flatMap fun v => (sortT (keysH h2)).flatMap (inU h2 v (unlA h1 h2 v))).length ≤ 640000 := by
        have q1 : ∀ v ∈ (sortT (keysH h1)).take i, ((sortT (keysH h2)).flatMap (inU h2 v (unlA h1 h2 v))).length ≤ 16000 := fun v _ => by
          have q2 := fm_len (l := sortT (keysH h2)) (f := inU h2 v (unlA h1 h2 v)) (n := 400) fun s _ => inU_len ok1 ok2 v s
          rw [sortT_len] at q2
          have := ok2.few
          have : h2.length * 400 ≤ 40 * 400 := Nat.mul_le_mul ok2.few (Nat.le_refl _)
          omega
        have q3 := fm_len q1
        have q4 : ((sortT (keysH h1)).take i).length ≤ 40 := by
          have := List.length_take_le' i (sortT (keysH h1))
          have := sortT_len h1
          have := ok1.few
          omega
        have : ((sortT (keysH h1)).take i).length * 16000 ≤ 40 * 16000 := Nat.mul_le_mul q4 (Nat.le_refl _)
        omega
      generalize (((sortT (keysH h1)).take i).flatMap fun v => (sortT (keysH h2)).flatMap (inU h2 v (unlA h1 h2 v))) = done at hac et lacc
      have ha13 := (sH0.trans s3) _ _ ha1
      have ha23 := (sH0.trans s3) _ _ ha2
      obtain ⟨acc0, hDa, hpa⟩ := id hac
      -- rest
      refine ⟨_, rfl, a1, dx1, _, rfl, ha13, h_no (by decide +kernel), _, rfl, _, vv, h1, rfl, hS10.same s3, hvok, fun H4 z4 s4 hz4 => ?_⟩
      obtain ⟨x4, dx4, l4, rfl, hx4, hl4⟩ := id hz4
      refine ⟨x4, dx4, _, rfl, hx4, a_no (by decide +kernel), ?_⟩
      refine ⟨_, rfl, a2, dx2, _, rfl, s4 _ _ ha23, h_no (by decide +kernel), _, rfl, _, vv, h2, rfl, hS20.same (s3.trans s4), hvok, fun H5 z5 s5 hz5 => ?_⟩
      refine ⟨_, _, _, _, rs, cs, rfl, hz4.same s5, hz5, ok1.wh vv, ok2.wh vv, fun H6 z6 s6 hz6 => ?_⟩
      have s36 := s4.trans (s5.trans s6)
      have hz6a := hz6.at
      obtain ⟨x6, dx6, l6, rfl, hx6, hl6, nl6⟩ := hz6
      have hD6 := s36 _ _ hDa
      have nl6D : l6 ≠ D := ne_of_none' nl6 ((s4.trans s5) _ _ hDa)
      have hac6 : LstOf (TriAt C) H6 D done := ⟨acc0, hD6, paired_imp (fun _ _ z => TriAt.same s36 z) hpa⟩
      have hz6r : AreaAt C CA H6 (.ref x6) (unlA h1 h2 vv) := hz6a
      have s06 := s3.trans s36
      have frest : Fine rs cs (unlA h1 h2 vv) := fine_areaK kSub (ok1.wh vv) (ok2.wh vv)
      clear hz6a hz5 hz4 hl4 hx4
      -- the inner loop
      refine ⟨_, rfl, a2, dx2, _, rfl, s36 _ _ ha23, h_no (by decide +kernel), _, h2, rfl, hS20.same s06, by have := ok2.few; omega, fun H7 p7 ys s7 hp7 hpm hso hy7 => ?_⟩
      obtain rfl := sortT_of hpm (sortedS_pw hso)
      have np7 : p7 ≠ D := ne_of_none' hp7 hD6
      have hD7 := s7 _ _ hD6
      have sB : Same H0 (delH' H7 D) := del_same (s06.trans s7) nD0
      have hy0' : (delH' H7 D) p7 = some (.lst ((sortT (keysH h2)).map V.str)) := by rw [del_ne np7]; exact hy7
      have hrB : AreaAt C CA (delH' H7 D) (.ref x6) (unlA h1 h2 vv) := by
        obtain ⟨ws, hw1, hw2⟩ := hl6
        refine ⟨x6, dx6, l6, rfl, ?_, ws, ?_, paired_imp (fun _ _ z => blk_del hD7 (BlkAt.same s7 z)) hw2⟩
        · rw [del_ne (ne_of (s7 _ _ hx6) hD7 fun z => nomatch z)]
          exact s7 _ _ hx6
        · rw [del_ne nl6D]
          exact s7 _ _ hw1
      have subB : Same (delH' H7 D) H7 := del_sub
      have nDB : (delH' H7 D) D = none := del_self
      have hac7 := lst_mono (R := TriAt C) (fun s h => TriAt.same s h) s7 hac6
      refine ⟨p7, rfl, ⟨_, sql hy7⟩, ?_⟩
      generalize delH' H7 D = HB at sB hy0' hrB subB nDB
      refine for_listG0 (H0 := HB) (R := StrV) (sql hy0') (strV_all _) (fun j σ H8 => ∃ s ar, σ = [some (.ref a1), some (.ref a2), some (.ref D), some (.str vv), some (.ref x6), s, ar, none] ∧ Same HB H8 ∧ LstOf (TriAt C) H8 D (done ++ ((sortT (keysH h2)).take j).flatMap (inU h2 vv (unlA h1 h2 vv))))
        ⟨_, _, rfl, subB, by rw [List.take_zero]; simpa using hac7⟩ (fun j σ H8 ⟨_, _, _, s8, _⟩ => s8) ?_ ?_
      · rintro j x ss σ H8 hj hss rfl ⟨s', ar', rfl, s8, hac8⟩
        have hsok := keys_ok ok2 ss (List.mem_of_getElem? hss)
        have et2 : ((sortT (keysH h2)).take (j + 1)).flatMap (inU h2 vv (unlA h1 h2 vv)) = ((sortT (keysH h2)).take j).flatMap (inU h2 vv (unlA h1 h2 vv)) ++ inU h2 vv (unlA h1 h2 vv) ss := by
          rw [take_succ' hss, List.flatMap_append]
          simp
        have l2 : (((sortT (keysH h2)).take j).flatMap (inU h2 vv (unlA h1 h2 vv))).length ≤ 16000 := by
          have q3 := fm_len (l := (sortT (keysH h2)).take j) (f := inU h2 vv (unlA h1 h2 vv)) (n := 400) fun s _ => inU_len ok1 ok2 vv s
          have q4 : ((sortT (keysH h2)).take j).length ≤ 40 := by
            have := List.length_take_le' j (sortT (keysH h2))
            have := sortT_len h2
            have := ok2.few
            omega
          have : ((sortT (keysH h2)).take j).length * 400 ≤ 40 * 400 := Nat.mul_le_mul q4 (Nat.le_refl _)
          omega
        have lin := inU_len ok1 ok2 vv ss
        generalize ((sortT (keysH h2)).take j).flatMap (inU h2 vv (unlA h1 h2 vv)) = done2 at hac8 et2 l2
        have skip : inU h2 vv (unlA h1 h2 vv) ss = [] → LstOf (TriAt C) H8 D (done ++ ((sortT (keysH h2)).take (j + 1)).flatMap (inU h2 vv (unlA h1 h2 vv))) := fun e => by
          rw [et2, e, List.append_nil]
          exact hac8
        refine ⟨_, rfl, _, rfl, rfl, _, rfl, ?_⟩
        have e1 : (!decide (V.str ss = V.str vv)) = !decide (ss = vv) := by
          by_cases e : ss = vv <;> simp [e]
        show if (!decide (V.str ss = V.str vv)) = true then _ else _
        rw [e1]
        by_cases e : ss = vv
        · rw [decide_eq_true e]
          refine iteF (iteF ⟨_, _, rfl, s8, skip ?_⟩)
          unfold inU
          rw [if_neg fun z => z.1 e]
        · rw [decide_eq_false e]
          refine iteT ?_
          have hr8 := hrB.same s8
          obtain ⟨x8, dx8, l8, ex8, hx8, hl8⟩ := id hr8
          cases ex8
          have hz : (unlA h1 h2 vv).length ≤ 400 := frest.2.2.2
          refine ⟨_, rfl, x6, dx8, _, rfl, hx8, ⟨_, _, rfl, hr8, ((unlA h1 h2 vv).length : Int), rfl, by omega, by omega, ?_⟩⟩
          refine ⟨_, _, rfl, rfl, _, rfl, ?_⟩
          refine ite2 (fun hc => ?_) (fun hc => ?_)
          · have hc' := of_decide_eq_true hc
            have hne : unlA h1 h2 vv ≠ [] := fun z => by rw [z] at hc'; simp at hc'
            have ein : inU h2 vv (unlA h1 h2 vv) ss = (areaK (unlA h1 h2 vv) (whereH h2 ss) kAnd).map fun b => (b, vv, ss) := by
              unfold inU
              rw [if_pos ⟨e, hne⟩]
            obtain ⟨acc8, hD8, hp8⟩ := id hac8
            have sB8 := sB.trans s8
            refine ⟨_, rfl, x6, dx8, _, rfl, hx8, a_no (by decide +kernel), _, rfl, a2, dx2, _, rfl, (sH0.trans sB8) _ _ ha2, h_no (by decide +kernel), _, rfl, _, ss, h2, rfl, hS20.same sB8, hsok, fun H9 z9 s9 hz9 => ?_⟩
            refine ⟨_, _, _, _, rs, cs, rfl, hr8.same s9, hz9, frest, ok2.wh ss, fun H10 z10 s10 hz10 => ?_⟩
            have hz10a := hz10.at
            obtain ⟨x10, dx10, l10, rfl, hx10, hl10⟩ := id hz10a
            have s810 := s9.trans s10
            have hD10 := s810 _ _ hD8
            refine ⟨_, rfl, Or.inl ⟨rfl, _, sql hD10⟩, ?_⟩
            have lz : (areaK (unlA h1 h2 vv) (whereH h2 ss) kAnd).length ≤ 400 := (fine_areaK kAnd frest (ok2.wh ss)).2.2.2
            refine ⟨_, rfl, x10, dx10, _, rfl, hx10, a_no (by decide +kernel), _, _, rfl, hz10a, fun H11 q11 s11 hq11 ⟨xs11, hx11, hb11⟩ => ⟨q11, rfl, ⟨_, sql hx11⟩, fun E hE => lc_gen (R := BlkAt C) (R' := TriAt C) (keep := fun _ => true) (f := fun b : Blk => (b, vv, ss)) hE (sql hx11) hb11 (Nat.le_trans lz (by decide)) (fun s h => BlkAt.same s h) (fun s h => TriAt.same s h) tri_del ?_ ?_⟩⟩
            · rintro y m H12 _ hy s12 QT QF g1 g2
              exact ⟨rfl, iteT (B := QF H12) ⟨_, rfl, _, rfl, _, rfl, (by show 3 ≤ sizeLine; decide), fun q hq => g1 rfl _ _ (same_new hq) ⟨q, _, rfl, upd_same, hy.same (same_new hq)⟩⟩⟩
            · intro H12 s12 hL
              rw [filtT] at hL
              obtain ⟨ys12, hE12, hy12⟩ := hL
              have s812 := s810.trans (s11.trans s12)
              have hD12 := s812 _ _ hD8
              have hp12 := paired_imp (fun _ _ z => TriAt.same s812 z) hp8
              have m1 := Paired.length hp12
              have m2 := Paired.length hy12
              rw [List.length_map] at m2
              rw [List.length_append] at m1
              have lz' : (areaOf (byK (unlA h1 h2 vv) ((getH h2 ss).getD []) kAnd)).length ≤ 400 := lz
              refine ⟨D, E, acc8, ys12, rfl, rfl, hD12, hE12, szB (by omega), _, _, rfl, sm_mut (s8.trans s812) nDB, ?_⟩
              rw [et2, ein, ← List.append_assoc]
              exact ⟨_, upd_same, paired_imp (fun _ _ z => TriAt.same del_upd (tri_del hD12 z)) (paired_app hp12 hy12)⟩
          · have hc' : ¬ (((unlA h1 h2 vv).length : Int) > 0) := fun z => hc (decide_eq_true z)
            refine ⟨_, _, rfl, s8, skip ?_⟩
            have hnil : unlA h1 h2 vv = [] := by
              cases e9 : unlA h1 h2 vv with
              | nil => rfl
              | cons b bs => rw [e9] at hc'; simp at hc'
            unfold inU
            rw [if_neg fun z => z.2 hnil]
      · rintro σ H8 ⟨s', ar', rfl, s8, hac8⟩
        rw [List.take_of_length_le (Nat.le_refl _), ← et] at hac8
        exact ⟨_, _, _, _, rfl, sB.trans s8, hac8⟩
    · rintro σ H3 ⟨v', r', s', ar', rfl, s3, acc, hD3, hp3⟩
      rw [List.take_of_length_le (Nat.le_refl _)] at hp3
      have sH3 := sH0.trans s3
      refine ⟨_, rfl, Tri, unlikeP h1 h2, fun p => p.1.t, fun p => p.1.l, TriAt C H3, D, _, rfl, rfl, sql hD3, hp3, fun x p _ hx H8 e8 Q' hQ' => ?_, fun ys p H8 e8 hp hp8 hys => ?_⟩
      · obtain ⟨y, u, rfl, hy, hu⟩ := TriAt.same e8 hx
        exact ⟨y, u, [.str p.2.1, .str p.2.2], p.1, rfl, hy, hu, fun H9 q s9 hq hq9 => hQ' _ _ s9 (.tup (sqt hq9) (.cons (.int _) (.cons (.int _) .nil)))⟩
      · exact k H8 p (sH3.trans e8) (sH3.free hp) ⟨ys, hp8, paired_imp (fun _ _ z => TriAt.same e8 z) hys⟩
end
end CB
end
section
set_option maxHeartbeats 4000000
/-! unlike_area; the law's draws -/
namespace CB
open PySem PySem.Spec PyProof.Rows L2 CBM
section
variable {P : Program} {w : World} {K : PySem.W.Frag} {mg : Str → Option Value} {base : Heap} {C CA CS : Addr}
abbrev sUnlA : Stmt := top 50
theorem scUnlA : FnScope ["one", "other", "part"] ["one", "other"] (defScope sUnlA) := ⟨rfl, rfl, rfl, by decide +kernel, rfl, by decide +kernel, by decide +kernel⟩
def spUnlA (C CA CS : Addr) : Sp := fun vs H Q _ => ∃ (v u : V) (h1 h2 : Held) (rs cs : List Int), vs = [v, u] ∧ SheetAt C CA CS H v h1 ∧ SheetAt C CA CS H u h2 ∧ HeldOk rs cs h1 ∧ HeldOk rs cs h2 ∧ Fine rs cs ((unlikeH h1 h2).map (·.1)) ∧ ∀ H' z, Same H H' → AreaAt C CA H' z (areaOf ((unlikeH h1 h2).map (·.1))) → Q z H'
theorem ok_unlA {f : Addr} {fd : FuncData} (F : FnD K "unlike_area" "unlike_area" sUnlA [] f fd) (g : mg "unlike_area" = some (.ref f)) (cU : C8.Cal P w K mg base 11 "unlike" (spUnl C CA CS) []) (cA : C8.Mak P w K mg base 7 "Area" CA (spAInit C CA) []) : C8.Cal P w K mg base 12 "unlike_area" (spUnlA C CA CS) [] := by
  refine calD F g (F.bindsN fun _ _ _ _ _ _ us hl => match us, hl with | [_, _], _ => rfl) .nil scUnlA (fun vs H Q E h => ?_) (fun cdv A outer s H vs Q E hr h => ?_)
  · obtain ⟨v, u, h1, h2, rs, cs, rfl, _⟩ := h
    rfl
  · obtain ⟨v, u, h1, h2, rs, cs, rfl, hS1, hS2, ok1, ok2, hf, k⟩ := h
    refine ⟨_, pss_one (ps_ret (C8.pe_mk cA hr (by decide) rfl (pa_cons (pe_lc (own := [("part", 2)]) (g := gName 2) (tt := tYes) rfl scUnlA.nd (pi_list (C8.pe_c cU hr (by decide) rfl (pa_cons (pv 0) (pa_cons (pv 1) pa_nil)))) (blkOk_by (N := ["one", "other", "part"]) (sc := defScope sUnlA) (by decide +kernel))
      (fun _ _ _ _ _ => pg_name (i := 2) scUnlA.nd rfl (Or.inl rfl)) (fun _ _ _ _ _ => pts_nil) (fun _ _ _ _ _ => pe_ix (ixT K) (pv 2) pe_int (fun _ _ => rfl))) pa_nil))), ?_⟩
    have hlen : (unlikeH h1 h2).length ≤ 400 := by
      have := hf.2.2.2
      rw [List.length_map] at this
      exact this
    refine ⟨_, rfl, _, rfl, v, u, h1, h2, rs, cs, rfl, hS1, hS2, ok1, ok2, fun H1 p1 s1 hp1 ⟨xs, hx, hpx⟩ => ⟨p1, rfl, ⟨_, sql hx⟩, fun D hD => lc_gen (R := TriAt C) (R' := BlkAt C) (keep := fun _ => true) (f := fun p : Tri => p.1) hD (sql hx) hpx (by omega) (fun s h => TriAt.same s h) (fun s h => BlkAt.same s h) blk_del ?_ ?_⟩⟩
    · rintro x m H2 _ ⟨a, b, rfl, ha, hb⟩ s2 QT QF g1 g2
      exact ⟨rfl, iteT (B := QF H2) ⟨_, rfl, a, _, _, _, rfl, rfl, sqt ha, atI_nat (j := 0) rfl, g1 rfl _ H2 (Same.refl _) hb⟩⟩
    · intro H2 s2 hL
      rw [filtT] at hL
      refine fun x dy hx hdy _ => ⟨x, dy, .ref D, _, rs, cs, rfl, upd_same, .inr ⟨D, rfl, blks_mk hx hdy hL⟩, hf, fun H3 l3 _ keep hx3 hb3 => ⟨rfl, ?_⟩⟩
      exact k H3 (.ref x) ((s1.trans s2).trans (mk_keep hx hdy keep)) (aInit_at (H := H3) hx3 hb3)
abbrev sCellAt : Stmt := top 52
theorem scCellAt : FnScope ["_law_script", "_law_k"] ["_law_script", "_law_k"] (defScope sCellAt) := ⟨rfl, rfl, rfl, by decide +kernel, rfl, by decide +kernel, by decide +kernel⟩
def spCellAt (K : PySem.W.Frag) : Sp := fun vs H Q _ => ∃ (a : Addr) (ns : List Int) (k : Nat), vs = [.ref a, .int k] ∧ SqL K H a (ns.map V.int) ∧ ns.length ≤ 63 ∧ ∀ n, Q (.int n) H
theorem ok_cellat {f : Addr} {fd : FuncData} (F : FnD K "_law_cell_at" "_law_cell_at" sCellAt [] f fd) (g : mg "_law_cell_at" = some (.ref f)) (B : Bi mg) : C8.Cal P w K mg base 1 "_law_cell_at" (spCellAt K) [] := by
  refine calD F g (F.bindsN fun _ _ _ _ _ _ us hl => match us, hl with | [_, _], _ => rfl) .nil scCellAt (fun vs H Q E h => ?_) (fun cdv A outer s H vs Q E hr h => ?_)
  · obtain ⟨a, ns, k, rfl, _⟩ := h
    rfl
  · obtain ⟨a, ns, k, rfl, hS, hz, q⟩ := h
    refine ⟨_, pss_cons (ps_if (pt_cmpR op_lt (pv 1) (pe_callB call_len rfl B.len PySem.boot_len (pa_cons (pv 0) pa_nil)) (nomark _)) (pss_one (ps_ret (pe_ix ix_list (pv 0) (pv 1) (fun _ _ => rfl)))) pss_nil)
      (pss_one (ps_ret pe_int)), ?_⟩
    refine ⟨_, rfl, _, rfl, _, _, rfl, Or.inl ⟨_, hS, rfl⟩, _, _, rfl, rfl, _, rfl, ?_⟩
    refine ite2 (fun hc => ?_) (fun hc => ?_)
    · have hc' := of_decide_eq_true hc
      rw [List.length_map] at hc'
      have hk : k < ns.length := by omega
      refine ⟨_, rfl, _, rfl, a, _, _, .int ns[k], rfl, rfl, hS, atI_nat (by rw [List.getElem?_map, List.getElem?_eq_getElem hk]; rfl), q _⟩
    · exact q 0
/-- the well at q -/
def WellAt (H : Hp) (q : Addr) (a b c : Int) : Prop := H q = some (.lst [.int a, .int b, .int c]) ∧ 0 ≤ a ∧ 0 ≤ b ∧ b < 2147483647 ∧ 0 ≤ c
abbrev sWell : Stmt := top 53
theorem scWell : FnScope ["_law_cell"] ["_law_cell"] (defScope sWell) := ⟨rfl, rfl, rfl, by decide +kernel, rfl, by decide +kernel, by decide +kernel⟩
def spWell : Sp := fun vs H Q _ => ∃ (n : Int), vs = [.int n] ∧ ∀ H' q a b, Same H H' → H q = none → WellAt H' q a b 0 → Q (.ref q) H'
theorem ok_well {f : Addr} {fd : FuncData} (F : FnD K "_law_well" "_law_well" sWell [] f fd) (g : mg "_law_well" = some (.ref f)) (B : Bi mg) : C8.Cal P w K mg base 1 "_law_well" spWell [] := by
  refine calD F g (F.bindsN fun _ _ _ _ _ _ us hl => match us, hl with | [_], _ => rfl) .nil scWell (fun vs H Q E h => ?_) (fun cdv A outer s H vs Q E hr h => ?_)
  · obtain ⟨n, rfl, _⟩ := h
    rfl
  · obtain ⟨n, rfl, k⟩ := h
    refine ⟨_, pss_one (ps_ret (pe_lst (pa_cons (pe_op op_mul (pv 0) (pe_callTy call_int1 rfl B.int (by decide +kernel) (pa_cons (pe_cmp (pc_ge (pv 0) (pe_op op_pow pe_int pe_int)) rfl) pa_nil))) (pa_cons (pe_op op_mod (pv 0) pe_int) (pa_cons pe_int pa_nil))))), ?_⟩
    refine ⟨_, rfl, _, rfl, _, _, rfl, rfl, ⟨by decide, by decide, by decide⟩, _, _, rfl, rfl, .inr ⟨_, rfl, ?_⟩⟩
    refine ⟨_, _, rfl, rfl, .inr ⟨by split <;> decide, by split <;> decide⟩, _, rfl, _, _, rfl, rfl, (by show (0 : Int) < 2147483647; decide), (by show 3 ≤ sizeLine; decide), fun q hq => ?_⟩
    refine k _ q _ _ (same_new hq) hq ⟨upd_same, ?_, Int.emod_nonneg _ (by decide), Int.emod_lt_of_pos _ (by decide), Int.le_refl _⟩
    by_cases h : n ≥ 10 ^ 18
    · have : (if decide (((10 : Int) ^ (18 : Int).toNat) ≤ n) = true then (1 : Int) else 0) = 1 := if_pos (decide_eq_true h)
      show 0 ≤ n * (if decide (((10 : Int) ^ (18 : Int).toNat) ≤ n) = true then (1 : Int) else 0)
      rw [this]
      omega
    · have : (if decide (((10 : Int) ^ (18 : Int).toNat) ≤ n) = true then (1 : Int) else 0) = 0 := if_neg (fun z => h (of_decide_eq_true z))
      show 0 ≤ n * (if decide (((10 : Int) ^ (18 : Int).toNat) ≤ n) = true then (1 : Int) else 0)
      rw [this]
      omega
abbrev sDraw : Stmt := top 54
abbrev NDraw : List Str := ["_law_well_here", "_law_many", "_law_found", "_law_number"]
theorem scDraw : FnScope NDraw ["_law_well_here", "_law_many"] (defScope sDraw) := ⟨rfl, rfl, rfl, by decide +kernel, rfl, by decide +kernel, by decide +kernel⟩
def spDraw : Sp := fun vs H Q _ => ∃ (q : Addr) (a b c m : Int), vs = [.ref q, .int m] ∧ WellAt H q a b c ∧ c ≤ 100000 ∧ 1 ≤ m ∧ m ≤ 1000000000 ∧ ∀ r a' c' H', 0 ≤ r → r < m → c' ≤ c + 1 → (∀ b o, b ≠ q → H b = some o → H' b = some o) → WellAt H' q a' b c' → (∀ b, H' b = none → H b = none) → Q (.int r) H'
theorem ok_draw {f : Addr} {fd : FuncData} (F : FnD K "_law_draw" "_law_draw" sDraw [] f fd) (g : mg "_law_draw" = some (.ref f)) : C8.Cal P w K mg base 1 "_law_draw" spDraw [] := by
  refine calD F g (F.bindsN fun _ _ _ _ _ _ us hl => match us, hl with | [_, _], _ => rfl) .nil scDraw (fun vs H Q E h => ?_) (fun cdv A outer s H vs Q E hr h => ?_)
  · obtain ⟨q, a, b, c, m, rfl, _⟩ := h
    rfl
  · obtain ⟨q, a, b, c, m, rfl, ⟨hq, ha, hb, hb2, hc⟩, hc2, hm, hm2, k⟩ := h
    refine ⟨_, pss_cons (ps_if (pt_cmpR op_gt (pe_ix ix_list (pv 0) pe_int (fun _ _ => rfl)) pe_int (nomark _))
        (pss_cons (ps_set (i := 2) scDraw.nd rfl (Or.inl rfl) (pe_op op_mod (pe_ix ix_list (pv 0) pe_int (fun _ _ => rfl)) (pv 1)))
        (pss_cons (ps_asg (pe_op op_fdiv (pe_ix ix_list (pv 0) pe_int (fun _ _ => rfl)) (pv 1)) (pg_sub (pv 0) pe_int set_list (by intro _; rfl)))
        (pss_one (ps_ret (pv 2))))) pss_nil)
      (pss_cons (ps_asg (pe_op op_add (pe_ix ix_list (pv 0) pe_int (fun _ _ => rfl)) pe_int) (pg_sub (pv 0) pe_int set_list (by intro _; rfl)))
      (pss_cons (ps_set (i := 3) scDraw.nd rfl (Or.inl rfl) (pe_op op_mod (pe_op op_pow (pe_op op_add (pe_op op_add (pe_ix ix_list (pv 0) pe_int (fun _ _ => rfl)) (pe_op op_mul pe_int (pe_ix ix_list (pv 0) pe_int (fun _ _ => rfl)))) pe_int) pe_int) pe_int))
      (pss_cons (ps_set (i := 3) scDraw.nd rfl (Or.inl rfl) (pe_op op_mod (pe_op op_mul (pv 3) (pe_op op_add (pe_op op_fdiv (pv 3) pe_int) pe_int)) pe_int))
      (pss_one (ps_ret (pe_op op_mod (pe_op op_mod (pe_op op_mul (pv 3) (pe_op op_add (pe_op op_fdiv (pv 3) pe_int) pe_int)) pe_int) (pv 1))))))), ?_⟩
    refine ⟨_, rfl, q, _, 0, .int a, rfl, rfl, sql hq, atI_nat (j := 0) rfl, _, _, rfl, rfl, _, rfl, ?_⟩
    refine ite2 (fun hx => ?_) (fun hx => ?_)
    · refine ⟨_, rfl, q, _, 0, .int a, rfl, rfl, sql hq, atI_nat (j := 0) rfl, _, rfl, _, _, rfl, rfl, (show (0 : Int) < m by omega), ?_⟩
      refine ⟨_, rfl, q, _, 0, .int a, rfl, rfl, sql hq, atI_nat (j := 0) rfl, _, rfl, _, _, rfl, rfl, ⟨by omega, by omega⟩, ?_⟩
      refine ⟨_, rfl, q, _, 0, 0, rfl, rfl, hq, rfl, ?_⟩
      refine ⟨_, rfl, ?_⟩
      refine k (a % m) (a / m) c _ (Int.emod_nonneg _ (by omega)) (Int.emod_lt_of_pos _ (by omega)) (by omega) (fun x o hb e => by rw [upd_ne hb]; exact e) ⟨upd_same, Int.ediv_nonneg ha (by omega), hb, hb2, hc⟩ fun x hx => upd_none hx
    · refine ⟨_, rfl, q, _, 2, .int c, rfl, rfl, sql hq, atI_nat (j := 2) rfl, _, _, rfl, rfl, ?_⟩
      refine ⟨_, rfl, q, _, 2, 2, rfl, rfl, hq, rfl, ?_⟩
      have hq2 : (upd H q (.lst [.int a, .int b, .int (c + 1)])) q = some (.lst [.int a, .int b, .int (c + 1)]) := upd_same
      have e0 : (upd H q (.lst (([.int a, .int b, .int c] : List V).set 2 (.int (c + 1))))) = (upd H q (.lst [.int a, .int b, .int (c + 1)])) := rfl
      show tSeq _ _ _ _ (upd H q (.lst [.int a, .int b, .int (c + 1)]))
      have big : (b + 7919 * (c + 1) + 1).natAbs < 2 ^ 64 := by omega
      refine ⟨_, rfl, q, _, 1, .int b, rfl, rfl, sql hq2, atI_nat (j := 1) rfl, _, rfl, q, _, 2, .int (c + 1), rfl, rfl, sql hq2, atI_nat (j := 2) rfl, _, _, rfl, rfl, .inl ⟨by decide, by decide⟩, _, _, rfl, rfl, _, _, rfl, rfl, _, _, rfl, rfl, ⟨by decide, by decide, big⟩, _, _, rfl, rfl, (by show (0 : Int) < 2147483647; decide), ?_⟩
      have r1 : 0 ≤ (b + 7919 * (c + 1) + 1) ^ (3 : Int).toNat % 2147483647 := Int.emod_nonneg _ (by decide)
      have r2 : (b + 7919 * (c + 1) + 1) ^ (3 : Int).toNat % 2147483647 < 2147483647 := Int.emod_lt_of_pos _ (by decide)
      generalize hn : (b + 7919 * (c + 1) + 1) ^ (3 : Int).toNat % 2147483647 = n1 at r1 r2
      refine ⟨_, rfl, _, rfl, _, _, rfl, rfl, ⟨by decide, by decide⟩, _, _, rfl, rfl, _, _, rfl, rfl, .inl ⟨by rw [hn]; omega, by rw [hn]; omega⟩, _, _, rfl, rfl, (by show (0 : Int) < 2147483629; decide), ?_⟩
      rw [hn]
      have r3 : 0 ≤ n1 * (n1 / 1009 + 69621) % 2147483629 := Int.emod_nonneg _ (by decide)
      have r4 : n1 * (n1 / 1009 + 69621) % 2147483629 < 2147483629 := Int.emod_lt_of_pos _ (by decide)
      generalize n1 * (n1 / 1009 + 69621) % 2147483629 = n2 at r3 r4
      refine ⟨_, rfl, _, rfl, _, _, rfl, rfl, ⟨by decide, by decide⟩, _, _, rfl, rfl, _, _, rfl, rfl, .inl ⟨by omega, by omega⟩, _, _, rfl, rfl, (by show (0 : Int) < 2147483587; decide), _, rfl, _, _, rfl, rfl, (show (0 : Int) < m by omega), ?_⟩
      exact k _ a (c + 1) _ (Int.emod_nonneg _ (by omega)) (Int.emod_lt_of_pos _ (by omega)) (Int.le_refl _) (fun x o hb e => by rw [upd_ne hb]; exact e) ⟨upd_same, ha, hb, hb2, by omega⟩ fun x hx => upd_none hx
end
end CB
end
section
set_option maxHeartbeats 4000000
/-! the law's table -/
namespace CB
open PySem PySem.Spec PyProof.Rows L2 CBM
def compScope : Expr → Scope
  | .ListComp _ _ sc _ => sc
  | _ => { kind := .function, names := [], isGenerator := false, isCoroutine := false }
def retE : Stmt → Expr
  | .Return (some e) _ => e
  | _ => .Name "" ⟨0, 0, 0, 0⟩
def nthS (l : List Stmt) (i : Nat) : Stmt := l.getD i (.Pass ⟨0, 0, 0, 0⟩)
def vals13 : List Str := ["", "a", "b", "c 1", "d", " ", "f", "0", "h", "i9", "jj", "k", "l"]
def valB (z : Str) : Bool := decide (z.length ≤ 40) && z.cps.toList.all fun c => decide (c ∈ sgs.cps.toList)
theorem valB_ok {z : Str} (h : valB z = true) : ValOk z := by
  unfold valB at h
  rw [Bool.and_eq_true] at h
  exact ⟨of_decide_eq_true h.1, fun c hc => of_decide_eq_true (List.all_eq_true.mp h.2 c hc)⟩
theorem vals13_ok (v : Str) (h : v ∈ vals13) : ValOk v := valB_ok (List.all_eq_true.mp (show vals13.all valB = true by decide +kernel) v h)
/-- a row: a list of texts -/
def RowR (H : Hp) (v : V) (row : List Str) : Prop := ∃ a, v = .ref a ∧ H a = some (.lst (row.map V.str))
theorem RowR.same {H H' : Hp} {v : V} {row : List Str} (e : Same H H') (h : RowR H v row) : RowR H' v row := let ⟨a, h1, h2⟩ := h; ⟨a, h1, e _ _ h2⟩
abbrev TabAt (H : Hp) (t : Addr) (tab : List (List Str)) : Prop := LstOf RowR H t tab
theorem TabAt.same' {H H' : Hp} {t : Addr} {tab : List (List Str)} (e : Same H H') (h : TabAt H t tab) : TabAt H' t tab := LstOf.same (fun _ _ => RowR.same e) e h
/-- a table of r rows, c columns -/
structure Rect (tab : List (List Str)) (r c : Nat) : Prop where
  rows : tab.length = r
  cols : ∀ row ∈ tab, row.length = c
  vals : ∀ row ∈ tab, ∀ v ∈ row, v ∈ vals13
theorem cut_to (xs : List V) (n : Nat) (h : n ≤ xs.length) : cutV xs none (some (n : Int)) = xs.take n := by
  unfold cutV
  rw [HT.sIx_none, HT.sIx_nat, Nat.min_eq_left h, List.drop_zero, Nat.sub_zero]
theorem del_row {H : Hp} {q : Addr} {v : V} {row : List Str} (h : ∃ a, v = .ref a ∧ H a = some (.lst (row.map V.str)) ∧ a ≠ q) : RowR (delH' H q) v row := let ⟨a, h1, h2, h3⟩ := h; ⟨a, h1, by rw [del_ne h3]; exact h2⟩
section
variable {X : Cx}
theorem call_lenK (K : PySem.W.Frag) (h : X.K = K := by rfl) : CallR X (.builtin "len") (fun xs H Q => ∃ x n, xs = [x] ∧ LenV K x H n ∧ Q (.int n) H) := by
  subst h
  exact call_len
end
/-- what stands while a row is made, while the table is made -/
def ColI (q D2 : Addr) (H3 : Hp) (b c3 : Int) (j : Nat) (H4 : Hp) : Prop := (∀ x o, x ≠ q → x ≠ D2 → H3 x = some o → H4 x = some o) ∧ (∃ a4 c4, WellAt H4 q a4 b c4 ∧ c4 ≤ c3 + j) ∧ ∃ ws : List Str, H4 D2 = some (.lst (ws.map V.str)) ∧ ws.length = j ∧ ∀ v ∈ ws, v ∈ vals13
def RowI (q D : Addr) (H2 : Hp) (b c1 : Int) (k i : Nat) (H3 : Hp) : Prop := (∀ x o, x ≠ q → x ≠ D → H2 x = some o → H3 x = some o) ∧ (∃ a3 c3, WellAt H3 q a3 b c3 ∧ c3 ≤ c1 + 14 * i) ∧ ∃ (xs : List V) (rows : List (List Str)), H3 D = some (.lst xs) ∧ Paired (fun (v : V) (row : List Str) => ∃ e, v = .ref e ∧ H3 e = some (.lst (row.map V.str)) ∧ e ≠ q ∧ e ≠ D) xs rows ∧ rows.length = i ∧ ∀ row ∈ rows, row.length = k ∧ ∀ v ∈ row, v ∈ vals13
section
variable {P : Program} {w : World} {K : PySem.W.Frag} {mg : Str → Option Value} {base : Heap} {C CA CS : Addr}
abbrev sTable : Stmt := top 55
abbrev NTab : List Str := ["_law_well_here", "_law_rows", "_law_columns", "_law_values_here", "_law_row", "_law_column"]
theorem scTab : FnScope NTab ["_law_well_here", "_law_rows", "_law_columns"] (defScope sTable) := ⟨rfl, rfl, rfl, by decide +kernel, rfl, by decide +kernel, by decide +kernel⟩
def outSc : Scope := { kind := .function, names := [(".0", .local), ("_law_row", .local), ("range", .globalImplicit), ("_law_columns", .cell), ("_law_values_here", .cell), ("_law_well_here", .cell)], isGenerator := false, isCoroutine := false }
def spTable : Sp := fun vs H Q _ => ∃ (q : Addr) (a b c : Int) (r k : Nat), vs = [.ref q, .int r, .int k] ∧ WellAt H q a b c ∧ c ≤ 50000 ∧ 1 ≤ r ∧ r ≤ 14 ∧ 1 ≤ k ∧ k ≤ 14 ∧
  ∀ H' t a' c' tab, (∀ b o, b ≠ q → H b = some o → H' b = some o) → WellAt H' q a' b c' → c' ≤ c + 300 → H t = none → TabAt (delH' H' q) t tab → Rect tab r k → Q (.ref t) H'
theorem ok_table {f : Addr} {fd : FuncData} (F : FnD K "_law_table" "_law_table" sTable [] f fd) (g : mg "_law_table" = some (.ref f)) (B : Bi mg) (cD : C8.Cal P w K mg base 1 "_law_draw" spDraw []) : C8.Cal P w K mg base 2 "_law_table" spTable [] := by
  refine calD F g (F.bindsN fun _ _ _ _ _ _ us hl => match us, hl with | [_, _, _], _ => rfl) .nil scTab (fun vs H Q E h => ?_) (fun cdv A outer s H vs Q E hr h => ?_)
  · obtain ⟨q, a, b, c, r, k, rfl, _⟩ := h
    rfl
  · obtain ⟨q, a, b, c, r, k, rfl, hW, hc, hr1, hr14, hk1, hk14, kk⟩ := h
    refine ⟨_, pss_cons (ps_set (i := 3) scTab.nd rfl (Or.inr rfl) (pe_slice sl_list (pe_lst (pa_cons pe_str (pa_cons pe_str (pa_cons pe_str (pa_cons pe_str (pa_cons pe_str (pa_cons pe_str (pa_cons pe_str (pa_cons pe_str (pa_cons pe_str (pa_cons pe_str (pa_cons pe_str (pa_cons pe_str (pa_cons pe_str pa_nil)))))))))))))) po_none (po_some (pe_op op_add pe_int (C8.pe_c cD hr (by decide) rfl (pa_cons (pv 0) (pa_cons pe_int pa_nil)))))))
      (pss_one (ps_ret (pe_lc (own := [("_law_row", 4)]) (g := gName 4) (tt := tYes) rfl scTab.nd (pi_range1 rfl B.range (pa_cons (pv 1) pa_nil)) (blkOk_by (N := NTab) (sc := defScope sTable) (by decide +kernel))
        (fun _ _ _ _ _ => pg_name (i := 4) scTab.nd rfl (Or.inl rfl)) (fun _ _ _ _ _ => pts_nil)
        (fun _ _ _ _ _ => pe_lc (own := [("_law_column", 5)]) (g := gName 5) (tt := tYes) rfl scTab.nd (pi_range1 rfl B.range (pa_cons (pv 2) pa_nil)) (blkOk_by (N := NTab) (sc := outSc) (by decide +kernel))
          (fun _ _ _ _ _ => pg_name (i := 5) scTab.nd rfl (Or.inl rfl)) (fun _ _ _ _ _ => pts_nil)
          (fun _ _ _ _ _ => pe_ix (ixL K) (pv 3) (C8.pe_c cD hr (by decide) rfl (pa_cons (pv 0) (pa_cons (pe_callB (call_lenK K) rfl B.len PySem.boot_len (pa_cons (pv 3) pa_nil)) pa_nil))) (fun _ _ => rfl)))))), ?_⟩
    refine ⟨(by show 13 ≤ sizeLine; decide), fun p0 hp0 => ?_⟩
    have hp0v : (upd H p0 (.lst [.str "", .str "a", .str "b", .str "c 1", .str "d", .str " ", .str "f", .str "0", .str "h", .str "i9", .str "jj", .str "k", .str "l"])) p0 = some (.lst (vals13.map V.str)) := upd_same
    have s0 : Same H (upd H p0 (.lst [.str "", .str "a", .str "b", .str "c 1", .str "d", .str " ", .str "f", .str "0", .str "h", .str "i9", .str "jj", .str "k", .str "l"])) := same_new hp0
    have nq0 : p0 ≠ q := ne_of_none' hp0 hW.1
    have hW0 : WellAt (upd H p0 (.lst [.str "", .str "a", .str "b", .str "c 1", .str "d", .str " ", .str "f", .str "0", .str "h", .str "i9", .str "jj", .str "k", .str "l"])) q a b c := ⟨s0 _ _ hW.1, hW.2⟩
    show (tCall spDraw [] C8.E0 _) _ (upd H p0 (.lst [.str "", .str "a", .str "b", .str "c 1", .str "d", .str " ", .str "f", .str "0", .str "h", .str "i9", .str "jj", .str "k", .str "l"])) _
    generalize upd H p0 (.lst [.str "", .str "a", .str "b", .str "c 1", .str "d", .str " ", .str "f", .str "0", .str "h", .str "i9", .str "jj", .str "k", .str "l"]) = H0 at hp0v s0 hW0
    refine ⟨_, rfl, q, a, b, c, 12, rfl, hW0, by omega, by decide, by decide, fun n a1 c1 H1 hn0 hn12 hc1 keep1 hW1 back1 => ?_⟩
    obtain ⟨m, rfl⟩ : ∃ m : Nat, n = m := ⟨n.toNat, by omega⟩
    have hv1 := keep1 _ _ nq0 hp0v
    refine ⟨_, _, rfl, rfl, _, rfl, p0, _, rfl, sql hv1, fun pv' hpv => ?_⟩
    have em : cutV (vals13.map V.str) none (some (2 + (m : Int))) = (vals13.take (2 + m)).map V.str := by
      have e2 : (2 + (m : Int)) = ((2 + m : Nat) : Int) := by omega
      rw [e2, cut_to _ _ (by show 2 + m ≤ 13; omega), List.map_take]
    have hvl : (vals13.take (2 + m)).length = 2 + m := by
      rw [List.length_take]
      show min (2 + m) 13 = 2 + m
      omega
    have hvm : ∀ v ∈ vals13.take (2 + m), v ∈ vals13 := fun v hv => List.mem_of_mem_take hv
    have hpv2 : (upd H1 pv' (.lst (cutV (vals13.map V.str) none (some (2 + (m : Int)))))) pv' = some (.lst ((vals13.take (2 + m)).map V.str)) := by rw [upd_same, em]
    have s2 : Same H1 (upd H1 pv' (.lst (cutV (vals13.map V.str) none (some (2 + (m : Int)))))) := same_new hpv
    have nqv : pv' ≠ q := ne_of_none' hpv hW1.1
    have hW2 : WellAt (upd H1 pv' (.lst (cutV (vals13.map V.str) none (some (2 + (m : Int)))))) q a1 b c1 := ⟨s2 _ _ hW1.1, hW1.2⟩
    generalize upd H1 pv' (.lst (cutV (vals13.map V.str) none (some (2 + (m : Int))))) = H2 at hpv2 s2 hW2
    generalize vals13.take (2 + m) = vals at hpv2 hvl hvm
    have keep2 : ∀ x o, x ≠ q → H x = some o → H2 x = some o := fun x o hx e => s2 _ _ (keep1 _ _ hx (s0 _ _ e))
    have back2 : ∀ x, H2 x = none → H x = none := fun x hx => by
      cases e : H x with
      | none => rfl
      | some o =>
        by_cases ex : x = q
        · rw [ex, hW2.1] at hx
          cases hx
        · rw [keep2 x o ex e] at hx
          cases hx
    refine ⟨_, rfl, (r : Int), rfl, by omega, by omega, fun D hD => ?_⟩
    have nDq : D ≠ q := ne_of_none' hD hW2.1
    have nDv : D ≠ pv' := ne_of_none' hD hpv2
    refine lc_range (lo := 0) (n := r) (fun i H3 => RowI q D H2 b c1 k i H3) ?_ ?_ ?_
    · refine ⟨fun x o _ hx e => by rw [upd_ne hx]; exact e, ⟨a1, c1, ⟨by rw [upd_ne nDq.symm]; exact hW2.1, hW2.2⟩, by omega⟩, [], [], upd_same, .nil, rfl, (fun _ z => nomatch z)⟩
    · rintro i H3 hi ⟨keep3, ⟨a3, c3, hW3, hc3⟩, xs, rows, hD3, hrows, hlen, hall⟩
      refine ⟨rfl, iteT (B := RowI q D H2 b c1 k (i + 1) H3) ?_⟩
      refine ⟨_, rfl, (k : Int), rfl, by omega, by omega, fun D2 hD2 => ?_⟩
      have nD2q : D2 ≠ q := ne_of_none' hD2 hW3.1
      have nD2D : D2 ≠ D := ne_of_none' hD2 hD3
      have hv3 := keep3 _ _ nqv nDv.symm hpv2
      have nD2v : D2 ≠ pv' := ne_of_none' hD2 hv3
      refine lc_range (lo := 0) (n := k) (fun j H4 => ColI q D2 H3 b c3 j H4) ?_ ?_ ?_
      · exact ⟨fun x o _ hx e => by rw [upd_ne hx]; exact e, ⟨a3, c3, ⟨by rw [upd_ne nD2q.symm]; exact hW3.1, hW3.2⟩, by omega⟩, [], upd_same, rfl, (fun _ z => nomatch z)⟩
      · rintro j H4 hj ⟨keep4, ⟨a4, c4, hW4, hc4⟩, ws, hD4, hwl, hwm⟩
        have hv4 := keep4 _ _ nqv nD2v.symm hv3
        refine ⟨rfl, iteT (B := ColI q D2 H3 b c3 (j + 1) H4) ?_⟩
        refine ⟨_, rfl, _, rfl, _, rfl, _, vals.length, rfl, Or.inl ⟨_, sql hv4, by rw [List.length_map]⟩, ?_⟩
        refine ⟨q, a4, b, c4, (vals.length : Int), rfl, hW4, by omega, by omega, by omega, fun n5 a5 c5 H5 hn5 hn5' hc5 keep5 hW5 back5 => ?_⟩
        have hv5 := keep5 _ _ nqv hv4
        obtain ⟨m5, rfl⟩ : ∃ m : Nat, n5 = m := ⟨n5.toNat, by omega⟩
        have hm5 : m5 < vals.length := by omega
        refine ⟨pv', _, _, .str vals[m5], rfl, rfl, sql hv5, atI_nat (by rw [List.getElem?_map, List.getElem?_eq_getElem hm5]; rfl), ?_⟩
        have hD5 := keep5 _ _ nD2q hD4
        refine ⟨ws.map V.str, hD5, by rw [List.length_map]; exact sz_lt (by omega), fun x o hxq hxD e => by rw [upd_ne hxD]; exact keep5 _ _ hxq (keep4 _ _ hxq hxD e), ⟨a5, c5, ⟨by rw [upd_ne nD2q.symm]; exact hW5.1, hW5.2⟩, by omega⟩, ws ++ [vals[m5]], by rw [upd_same, List.map_append]; rfl, by rw [List.length_append, hwl]; rfl, fun v hv => ?_⟩
        rcases List.mem_append.mp hv with hv | hv
        · exact hwm v hv
        · rw [List.mem_singleton.mp hv]
          exact hvm _ (List.getElem_mem hm5)
      · rintro H4 ⟨keep4, ⟨a4, c4, hW4, hc4⟩, ws, hD4, hwl, hwm⟩
        have hD34 := keep4 _ _ nDq nD2D.symm hD3
        have lx := Paired.length hrows
        refine ⟨xs, hD34, sz_lt (by omega), fun x o hxq hxD e => ?_, ⟨a4, c4, ⟨by rw [upd_ne nDq.symm]; exact hW4.1, hW4.2⟩, by omega⟩, xs ++ [.ref D2], rows ++ [ws], upd_same, ?_, by rw [List.length_append, hlen]; rfl, fun row hrow => ?_⟩
        · rw [upd_ne hxD]
          have e3 := keep3 _ _ hxq hxD e
          exact keep4 _ _ hxq (ne_of_none e3 hD2) e3
        · refine paired_snoc' (paired_imp (fun v row ⟨e, h1, h2, h3, h4⟩ => ⟨e, h1, ?_, h3, h4⟩) hrows) ⟨D2, rfl, by rw [upd_ne nD2D]; exact hD4, nD2q, nD2D⟩
          rw [upd_ne h4]
          exact keep4 _ _ h3 (ne_of_none h2 hD2) h2
        · rcases List.mem_append.mp hrow with hrow | hrow
          · exact hall row hrow
          · rw [List.mem_singleton.mp hrow]
            exact ⟨hwl, hwm⟩
    · rintro H3 ⟨keep3, ⟨a3, c3, hW3, hc3⟩, xs, rows, hD3, hrows, hlen, hall⟩
      refine kk H3 D a3 c3 rows (fun x o hx e => ?_) hW3 (by omega) (back2 D hD) ⟨xs, by rw [del_ne nDq]; exact hD3, paired_imp (fun v row ⟨e, h1, h2, h3, h4⟩ => ⟨e, h1, by rw [del_ne h3]; exact h2⟩) hrows⟩ ⟨hlen, fun row h => (hall row h).1, fun row h => (hall row h).2⟩
      have e2 := keep2 x o hx e
      exact keep3 _ _ hx (ne_of_none e2 hD) e2
end
end CB
end
section
set_option maxHeartbeats 4000000
/-! the law's areas, values, sheets -/
namespace CB
open PySem PySem.Spec PyProof.Rows L2 CBM
theorem strs_get {row : List Str} {j : Nat} {x : V} (h : (row.map V.str)[j]? = some x) : ∃ s, row[j]? = some s ∧ x = .str s := by
  rw [List.getElem?_map] at h
  cases e : row[j]? with
  | none => rw [e] at h; cases h
  | some s => rw [e] at h; exact ⟨s, rfl, (Option.some.inj h).symm⟩
section
variable {P : Program} {w : World} {K : PySem.W.Frag} {mg : Str → Option Value} {base : Heap} {C CA CS : Addr}
abbrev sLArea : Stmt := top 56
abbrev NLArea : List Str := ["_law_table_here", "_law_value", "_law_place", "_law_blocks", "_law_i", "_law_line", "_law_j", "_law_one"]
theorem scLArea : FnScope NLArea ["_law_table_here", "_law_value", "_law_place"] (defScope sLArea) := ⟨rfl, rfl, rfl, by decide +kernel, rfl, by decide +kernel, by decide +kernel⟩
def spLArea (C CA : Addr) : Sp := fun vs H Q _ => ∃ (t pl : Addr) (v : Str) (tab : List (List Str)) (n c : Int) (rs cs : List Int), vs = [.ref t, .str v, .ref pl] ∧ TabAt H t tab ∧ H pl = some (.tup [.int n, .int c]) ∧ 1 ≤ n ∧ 1 ≤ c ∧ tab.length ≤ 14 ∧ (∀ row ∈ tab, row.length ≤ 14) ∧ Fine rs cs (tabBlks v n c tab) ∧
  ∀ H' z, Same H H' → AreaAt C CA H' z (areaOf (tabBlks v n c tab)) → Q z H'
theorem ok_larea {f : Addr} {fd : FuncData} (F : FnD K "_law_area" "_law_area" sLArea [] f fd) (g : mg "_law_area" = some (.ref f)) (B : Bi mg) (cB : C8.Mak P w K mg base 4 "Block" C (spBInit C) []) (cA : C8.Mak P w K mg base 7 "Area" CA (spAInit C CA) []) : C8.Cal P w K mg base 9 "_law_area" (spLArea C CA) [] := by
  refine calD F g (F.bindsN fun _ _ _ _ _ _ us hl => match us, hl with | [_, _, _], _ => rfl) .nil scLArea (fun vs H Q E h => ?_) (fun cdv A outer s H vs Q E hr h => ?_)
  · obtain ⟨t, pl, v, tab, n, c, rs, cs, rfl, _⟩ := h
    rfl
  · obtain ⟨t, pl, v, tab, n, c, rs, cs, rfl, ⟨xs, ht, hp⟩, hpl, hn, hc, zt, zr, hf, k⟩ := h
    refine ⟨_, pss_cons (ps_set (i := 3) scLArea.nd rfl (Or.inl rfl) (pe_lst pa_nil))
      (pss_cons (ps_for PassesOwn.never rfl (pi_enum rfl B.enumerate (pa_cons (pv 0) pa_nil)) (pg_tup rfl (pgs_cons (pg_name (i := 4) scLArea.nd rfl (.inl rfl)) (pgs_cons (pg_name (i := 5) scLArea.nd rfl (.inl rfl)) pgs_nil)))
        (pss_one (ps_for PassesOwn.never rfl (pi_enum rfl B.enumerate (pa_cons (pv 5) pa_nil)) (pg_tup rfl (pgs_cons (pg_name (i := 6) scLArea.nd rfl (.inl rfl)) (pgs_cons (pg_name (i := 7) scLArea.nd rfl (.inl rfl)) pgs_nil)))
          (pss_one (ps_if (pt_cmpR op_eq (pv 7) (pv 1) (nomark _))
            (pss_one (ps_expr (pe_bm PySem.F.plainAttrs_list PySem.F.slot_list_append PySem.F.type_list_append mt_append (pv 3) (pa_cons (C8.pe_mk cB hr (by decide) rfl
              (pa_cons (pe_op op_add (pe_ix ix_tup (pv 2) pe_int (fun _ _ => rfl)) (pv 4)) (pa_cons (pe_op op_add (pe_ix ix_tup (pv 2) pe_int (fun _ _ => rfl)) (pv 6)) (pa_cons (pe_op op_add (pe_ix ix_tup (pv 2) pe_int (fun _ _ => rfl)) (pv 4)) (pa_cons (pe_op op_add (pe_ix ix_tup (pv 2) pe_int (fun _ _ => rfl)) (pv 6)) pa_nil))))) pa_nil)))) pss_nil)))))
      (pss_one (ps_ret (C8.pe_mk cA hr (by decide) rfl (pa_cons (pv 3) pa_nil))))), ?_⟩
    refine ⟨Nat.zero_le _, fun D hD => ?_⟩
    have s0 : Same H (upd H D (.lst [])) := same_new hD
    have hD1 : (upd H D (.lst [])) D = some (.lst []) := upd_same
    generalize upd H D (.lst []) = H1 at s0 hD1
    refine ⟨_, rfl, t, xs, rfl, sql (s0 _ _ ht), ?_⟩
    refine for_enumG0 (H0 := H) (R := RowR) (sql ht) hp (fun i σ H2 => ∃ ii ln jj on, σ = [some (.ref t), some (.str v), some (.ref pl), some (.ref D), ii, ln, jj, on] ∧ Same H H2 ∧ Blks C H2 D (tabBlks v n c (tab.take i)))
      ⟨_, _, _, _, rfl, s0, by rw [List.take_zero]; exact ⟨[], hD1, .nil⟩⟩ (fun i σ H2 ⟨_, _, _, _, _, s2, _⟩ => s2) ?_ ?_
    · rintro i x row T σ H2 hi hrow ⟨ra, rfl, hra⟩ ⟨ii, ln, jj, on, rfl, s2, hb⟩ hT
      have s3 : Same H2 (upd H2 T (.tup [.int (i : Nat), .ref ra])) := same_new hT
      refine ⟨T, _, rfl, sqt upd_same, rfl, _, _, rfl, _, _, rfl, rfl, ?_⟩
      have s03 := s2.trans s3
      have hb3 := Blks.same' s3 hb
      show (tFor _ _ _) _ _ (upd H2 T (.tup [.int (i : Nat), .ref ra]))
      generalize upd H2 T (.tup [.int (i : Nat), .ref ra]) = H3 at s3 s03 hb3
      have hrm := List.mem_of_getElem? hrow
      have zrow := zr row hrm
      have et : tabBlks v n c (tab.take (i + 1)) = tabBlks v n c (tab.take i) ++ rowBlks v (n + i) c row := by
        rw [take_succ' hrow, tabBlks_snoc, List.length_take, Nat.min_eq_left (Nat.le_of_lt hi)]
      have lt : (tabBlks v n c (tab.take i)).length ≤ 196 := by
        have q1 := tabBlks_len v c (k := 14) (t := tab.take i) (n := n) fun r hr => zr r (List.mem_of_mem_take hr)
        have q2 : (tab.take i).length ≤ 14 := Nat.le_trans (List.length_take_le' i tab) zt
        have : (tab.take i).length * 14 ≤ 14 * 14 := Nat.mul_le_mul q2 (Nat.le_refl _)
        omega
      generalize tabBlks v n c (tab.take i) = done at hb3 et lt
      refine ⟨_, rfl, ra, row.map V.str, rfl, sql (s03 _ _ hra), ?_⟩
      refine for_enumG0 (H0 := H) (R := StrV) (sql hra) (strV_all row) (fun j σ H4 => ∃ jj on, σ = [some (.ref t), some (.str v), some (.ref pl), some (.ref D), some (.int (i : Nat)), some (.ref ra), jj, on] ∧ Same H H4 ∧ Blks C H4 D (done ++ rowBlks v (n + i) c (row.take j)))
        ⟨_, _, rfl, s03, by rw [List.take_zero]; simpa [rowBlks] using hb3⟩ (fun j σ H4 ⟨_, _, _, s4, _⟩ => s4) ?_ ?_
      · rintro j x y T2 σ H4 hj hy rfl ⟨jj2, on2, rfl, s4, hb4⟩ hT2
        have s5 : Same H4 (upd H4 T2 (.tup [.int (j : Nat), .str y])) := same_new hT2
        refine ⟨T2, _, rfl, sqt upd_same, rfl, _, _, rfl, _, _, rfl, rfl, ?_⟩
        have s05 := s4.trans s5
        have hb5 := Blks.same' s5 hb4
        show (tIfS _ _ _) _ _ (upd H4 T2 (.tup [.int (j : Nat), .str y]))
        generalize upd H4 T2 (.tup [.int (j : Nat), .str y]) = H5 at s5 s05 hb5
        have et2 : rowBlks v (n + i) c (row.take (j + 1)) = rowBlks v (n + i) c (row.take j) ++ (if y = v then [⟨n + i, c + j, some (n + i), some (c + j)⟩] else []) := by
          rw [take_succ' hy, rowBlks_snoc, List.length_take, Nat.min_eq_left (Nat.le_of_lt hj)]
        have lr : (rowBlks v (n + i) c (row.take j)).length ≤ 14 := by
          have q1 := rowBlks_len v (n + i) (row.take j) c
          have q2 := List.length_take_le' j row
          omega
        generalize rowBlks v (n + i) c (row.take j) = done2 at hb5 et2 lr
        refine ⟨_, rfl, _, rfl, rfl, _, rfl, ?_⟩
        have e1 : decide (V.str y = V.str v) = decide (y = v) := by by_cases e : y = v <;> simp [e]
        show if decide (V.str y = V.str v) = true then _ else _
        rw [e1]
        by_cases e : y = v
        · rw [if_pos e] at et2
          rw [decide_eq_true e]
          refine iteT ?_
          obtain ⟨acc, hDa, hpa⟩ := id hb5
          have hpl5 := s05 _ _ hpl
          refine ⟨_, rfl, Or.inl ⟨rfl, _, sql hDa⟩, ?_⟩
          refine ⟨_, rfl, pl, _, _, _, rfl, rfl, sqt hpl5, atI_nat (j := 0) rfl, _, rfl, _, _, rfl, rfl, _, rfl, pl, _, _, _, rfl, rfl, sqt hpl5, atI_nat (j := 1) rfl, _, rfl, _, _, rfl, rfl, _, rfl, pl, _, _, _, rfl, rfl, sqt hpl5, atI_nat (j := 0) rfl, _, rfl, _, _, rfl, rfl, _, rfl, pl, _, _, _, rfl, rfl, sqt hpl5, atI_nat (j := 1) rfl, _, rfl, _, _, rfl, rfl, ?_⟩
          refine fun x dx hx hdx _ => ⟨x, dx, ⟨n + i, c + j, some (n + i), some (c + j)⟩, rfl, ⟨show 1 ≤ n + (i : Int) by omega, show 1 ≤ c + (j : Int) by omega, Int.le_refl _, Int.le_refl _⟩, upd_same, rfl, ?_⟩
          have sx := mk_same (C := C) (fs := bF (n + i) (c + j) (some (n + i)) (some (c + j))) hx hdx
          have hbx : BlkAt C (upd (upd (upd H5 dx (.own x)) x (.ins C dx [])) x (.ins C dx (bF (n + i) (c + j) (some (n + i)) (some (c + j))))) (.ref x) ⟨n + i, c + j, some (n + i), some (c + j)⟩ := ⟨x, dx, rfl, upd_same⟩
          have hb6 := Blks.same' sx hb5
          have s06 := s05.trans sx
          show ∃ l xs y, _
          have e0 : (upd (upd (upd H5 dx (.own x)) x (.ins C dx [])) x (.ins C dx (bF (⟨n + i, c + j, some (n + i), some (c + j)⟩ : Blk).t (⟨n + i, c + j, some (n + i), some (c + j)⟩ : Blk).l (⟨n + i, c + j, some (n + i), some (c + j)⟩ : Blk).b (⟨n + i, c + j, some (n + i), some (c + j)⟩ : Blk).r))) = (upd (upd (upd H5 dx (.own x)) x (.ins C dx [])) x (.ins C dx (bF (n + i) (c + j) (some (n + i)) (some (c + j))))) := rfl
          rw [e0]
          generalize upd (upd (upd H5 dx (.own x)) x (.ins C dx [])) x (.ins C dx (bF (n + i) (c + j) (some (n + i)) (some (c + j)))) = H6 at sx hbx hb6 s06
          obtain ⟨acc', h1, h2, h3⟩ := lst_snoc (R := BlkAt C) (y := .ref x) (m := (⟨n + i, c + j, some (n + i), some (c + j)⟩ : Blk)) (fun s h => BlkAt.same s h) blk_del hb6 hbx
          rw [List.length_append] at h2
          refine ⟨D, _, _, rfl, rfl, h1, sz_lt (by omega), _, _, rfl, sm_mut s06 hD, ?_⟩
          rw [et2, ← List.append_assoc]
          exact h3
        · rw [if_neg e, List.append_nil] at et2
          rw [decide_eq_false e]
          refine iteF ⟨_, _, rfl, s05, ?_⟩
          rw [et2]
          exact hb5
      · rintro σ H4 ⟨jj2, on2, rfl, s4, hb4⟩
        rw [List.take_of_length_le (Nat.le_refl _), ← et] at hb4
        exact ⟨_, _, _, _, rfl, s4, hb4⟩
    · rintro σ H2 ⟨ii, ln, jj, on, rfl, s2, hb⟩
      rw [List.take_of_length_le (Nat.le_refl _)] at hb
      refine ⟨_, rfl, fun x dy hx hdy _ => ⟨x, dy, .ref D, _, rs, cs, rfl, upd_same, .inr ⟨D, rfl, blks_mk hx hdy hb⟩, hf, fun H3 l3 _ keep hx3 hb3 => ⟨rfl, ?_⟩⟩⟩
      exact k H3 (.ref x) (s2.trans (mk_keep hx hdy keep)) (aInit_at (H := H3) hx3 hb3)
end
end CB
end
section
set_option maxHeartbeats 4000000
/-! the law's values, its filled sheet -/
namespace CB
open PySem PySem.Spec PyProof.Rows L2 CBM
theorem addK_mapS {ks : List Str} {k : Str} : addK (ks.map (Sum.inr (α := Int))) (Sum.inr k) = (addK ks k).map Sum.inr := by
  unfold addK
  by_cases h : k ∈ ks
  · rw [if_pos h, if_pos (List.mem_map.mpr ⟨k, h, rfl⟩)]
  · rw [if_neg h, if_neg (fun z => h (by obtain ⟨j, hj, e⟩ := List.mem_map.mp z; cases e; exact hj))]
    rfl
theorem addKs_mapS : ∀ {l ks : List Str}, addKs (ks.map (Sum.inr (α := Int))) (l.map Sum.inr) = (addKs ks l).map Sum.inr
  | [], _ => rfl
  | k :: l, ks => by
    show addKs (addK (ks.map Sum.inr) (Sum.inr k)) (l.map Sum.inr) = (addKs (addK ks k) l).map Sum.inr
    rw [addK_mapS, addKs_mapS]
/-- what sorted(set(xs)) of texts is -/
theorem sorted_txts {ys l : List Str} (p : ys.Perm (addKs [] l)) (hp : ys.Pairwise (fun a b => PySem.W.dataLe false (fun b : Str => PyData.str b) a b = true)) : ys = valsT l := by
  refine valsT_of (hp.imp fun {a b} h => ?_) (p.nodup_iff.mpr (addKs_nd List.nodup_nil)) fun x => by rw [p.mem_iff, mem_addKs]; simp
  rw [PySem.W.dataLe_str (fun b : Str => b)] at h
  exact of_decide_eq_true h
section
variable {P : Program} {w : World} {K : PySem.W.Frag} {mg : Str → Option Value} {base : Heap} {C CA CS : Addr}
abbrev sLVals : Stmt := top 61
theorem scLVals : FnScope ["_law_table_here", "_law_found", "_law_line"] ["_law_table_here"] (defScope sLVals) := ⟨rfl, rfl, rfl, by decide +kernel, rfl, by decide +kernel, by decide +kernel⟩
def spLVals : Sp := fun vs H Q _ => ∃ (t : Addr) (tab : List (List Str)), vs = [.ref t] ∧ TabAt H t tab ∧ tab.length ≤ 14 ∧ (∀ row ∈ tab, row.length ≤ 14) ∧ ∀ H' p, Same H H' → H p = none → H' p = some (.lst ((valsT tab.flatten).map V.str)) → Q (.ref p) H'
theorem flat_len {tab : List (List Str)} {k : Nat} (h : ∀ row ∈ tab, row.length ≤ k) : tab.flatten.length ≤ tab.length * k := by
  induction tab with
  | nil => simp
  | cons row tab ih =>
    have h1 := h row (List.mem_cons_self ..)
    have h2 := ih fun r hr => h r (List.mem_cons_of_mem _ hr)
    rw [List.flatten_cons, List.length_append, List.length_cons, Nat.succ_mul]
    omega
theorem ok_lvals {f : Addr} {fd : FuncData} (F : FnD K "_law_values" "_law_values" sLVals [] f fd) (g : mg "_law_values" = some (.ref f)) (B : Bi mg) : C8.Cal P w K mg base 2 "_law_values" spLVals [] := by
  refine calD F g (F.bindsN fun _ _ _ _ _ _ us hl => match us, hl with | [_], _ => rfl) .nil scLVals (fun vs H Q E h => ?_) (fun cdv A outer s H vs Q E hr h => ?_)
  · obtain ⟨t, tab, rfl, _⟩ := h
    rfl
  · obtain ⟨t, tab, rfl, ⟨xs, ht, hp⟩, zt, zr, k⟩ := h
    refine ⟨_, pss_cons (ps_set (i := 1) scLVals.nd rfl (Or.inl rfl) (pe_lst pa_nil))
      (pss_cons (ps_for PassesOwn.never rfl (pi_list (pv 0)) (pg_name (i := 2) scLVals.nd rfl (.inl rfl))
        (pss_one (ps_set (i := 1) scLVals.nd rfl (Or.inl rfl) (pe_op op_cat (pv 1) (pv 2)))))
      (pss_one (ps_ret (pe_callB (call_sortedSP P w rfl rfl rfl hr) rfl B.sorted (by decide +kernel) (pa_cons (pe_callTy (call_setP P w K rfl rfl rfl rfl) rfl B.set (by decide +kernel) (pa_cons (pv 1) pa_nil)) pa_nil))))), ?_⟩
    refine ⟨Nat.zero_le _, fun D hD => ?_⟩
    have s0 : Same H (upd H D (.lst [])) := same_new hD
    have hD1 : (upd H D (.lst [])) D = some (.lst ([] : List V)) := upd_same
    refine ⟨_, rfl, t, rfl, ⟨_, sql (s0 _ _ ht)⟩, ?_⟩
    have zf := flat_len zr
    refine for_listG (H0 := H) (R := RowR) (sql ht) hp (fun s h => RowR.same s h) (fun i σ H2 => ∃ D ln, σ = [some (.ref t), some (.ref D), ln] ∧ Same H H2 ∧ H2 D = some (.lst ((tab.take i).flatten.map V.str))) ⟨D, _, rfl, s0, by rw [List.take_zero]; exact hD1⟩ (fun i σ H2 ⟨_, _, _, s2, _⟩ => s2) ?_ ?_
    · rintro i x row σ H2 hi hrow ⟨ra, rfl, hra⟩ ⟨D2, ln, rfl, s2, hD2⟩
      have zrow := zr row (List.mem_of_getElem? hrow)
      have zfl := flat_len (tab := tab.take i) fun r hr => zr r (List.mem_of_mem_take hr)
      have z2 : (tab.take i).length ≤ 14 := Nat.le_trans (List.length_take_le' i tab) zt
      have z3 : (tab.take i).length * 14 ≤ 14 * 14 := Nat.mul_le_mul z2 (Nat.le_refl _)
      refine ⟨_, rfl, _, rfl, D2, ra, _, _, rfl, rfl, hD2, hra, ?_, fun p hp2 => ?_⟩
      · rw [List.length_map, List.length_map]
        exact sz_le (by omega)
      · refine ⟨p, _, rfl, s2.trans (same_new hp2), ?_⟩
        rw [upd_same, take_succ' hrow, List.flatten_append, List.map_append]
        simp
    · rintro σ H2 ⟨D2, ln, rfl, s2, hD2⟩
      rw [List.take_of_length_le (Nat.le_refl _)] at hD2
      have z3 : tab.length * 14 ≤ 14 * 14 := Nat.mul_le_mul zt (Nat.le_refl _)
      refine ⟨_, rfl, D2, tab.flatten.map Sum.inr, rfl, sql (by rw [List.map_map]; exact hD2), by rw [List.length_map]; omega, fun p hp2 => ⟨p, addKs [] tab.flatten, rfl, ?_, fun ys q hpm hpw hq => ?_⟩⟩
      · rw [upd_same]
        exact congrArg (fun l => some (setO P w p l)) (addKs_mapS (l := tab.flatten) (ks := []))
      · have hys := sorted_txts hpm hpw
        subst hys
        exact k _ q ((s2.trans (same_new hp2)).trans (same_new hq)) ((s2.trans (same_new hp2)).free hq) upd_same
/-! ### sheets that are filled -/
def vals14 : List Str := vals13 ++ [("new" : Str)]
theorem vals14_ok (v : Str) (h : v ∈ vals14) : ValOk v := valB_ok (List.all_eq_true.mp (show vals14.all valB = true by decide +kernel) v h)
structure HeldFit (rs cs : List Int) (h : Held) : Prop where
  r : rs.length ≤ 20
  c : cs.length ≤ 20
  fine : ∀ p ∈ h, Fine rs cs p.2
  vals : ∀ p ∈ h, p.1 ∈ vals14
  nd : (keysH h).Nodup
theorem nodup_leT : ∀ {l m : List Str}, l.Nodup → (∀ x ∈ l, x ∈ m) → l.length ≤ m.length
  | [], _, _, _ => Nat.zero_le _
  | x :: l, m, h, hs => by
    obtain ⟨h1, h2⟩ := List.nodup_cons.mp h
    have hx := hs x (List.mem_cons_self ..)
    have h3 : ∀ y ∈ l, y ∈ m.erase x := fun y hy => (List.mem_erase_of_ne (fun e => h1 (by rw [← e]; exact hy))).mpr (hs y (List.mem_cons_of_mem _ hy))
    have h4 := nodup_leT h2 h3
    have h5 := List.length_erase_of_mem hx
    have h6 : 0 < m.length := List.length_pos_of_mem hx
    rw [List.length_cons]
    omega
theorem HeldFit.few {rs cs : List Int} {h : Held} (x : HeldFit rs cs h) : h.length ≤ 14 := by
  have := nodup_leT (m := vals14) x.nd fun v hv => by
    obtain ⟨p, hp, rfl⟩ := List.mem_map.mp hv
    exact x.vals p hp
  unfold keysH at this
  rw [List.length_map] at this
  exact this
theorem HeldFit.ok {rs cs : List Int} {h : Held} (x : HeldFit rs cs h) : HeldOk rs cs h := ⟨x.r, x.c, x.fine, fun p hp => vals14_ok _ (x.vals p hp), x.nd, Nat.le_trans x.few (by decide)⟩
theorem hold_sub {h : Held} {p : Txt × List Blk} (hp : p ∈ holdH h) : p ∈ h := (List.mem_filter.mp hp).1
theorem hold_nd {h : Held} (nd : (keysH h).Nodup) : (keysH (holdH h)).Nodup := List.Nodup.sublist ((List.filter_sublist (l := h)).map _) nd
theorem HeldFit.hold {rs cs : List Int} {h : Held} (x : HeldFit rs cs h) : HeldFit rs cs (holdH h) := ⟨x.r, x.c, fun p hp => x.fine p (hold_sub hp), fun p hp => x.vals p (hold_sub hp), hold_nd x.nd⟩
theorem HeldFit.get {rs cs : List Int} {h : Held} (x : HeldFit rs cs h) (v : Txt) : Fine rs cs ((getH h v).getD (areaOf [])) := by
  unfold getH
  cases e : h.find? (fun p => decide (p.1 = v)) with
  | none =>
    show Fine rs cs (areaOf [])
    rw [areaOf_nil]
    exact fine_nil rs cs x.r x.c
  | some p => exact x.fine p (List.mem_of_find?_eq_some e)
theorem HeldFit.fill {rs cs : List Int} {h : Held} (x : HeldFit rs cs h) {bs : List Blk} {v : Txt} (hb : Fine rs cs bs) (hv : v ∈ vals14) : HeldFit rs cs (fillH h bs v) := by
  have x1 : HeldFit rs cs (h.map fun p => (p.1, areaK p.2 bs kSub)) := ⟨x.r, x.c, fun p hp => by
    obtain ⟨q, hq, rfl⟩ := List.mem_map.mp hp
    exact fine_areaK kSub (x.fine q hq) hb, fun p hp => by
    obtain ⟨q, hq, rfl⟩ := List.mem_map.mp hp
    exact x.vals q hq, by rw [keys_map]; exact x.nd⟩
  unfold fillH
  refine HeldFit.hold ⟨x.r, x.c, fun p hp => ?_, fun p hp => ?_, keys_put x1.nd⟩
  · rcases put_mem hp with hp | rfl
    · exact x1.fine p hp
    · exact fine_areaK kOr (x1.get v) hb
  · rcases put_mem hp with hp | rfl
    · exact x1.vals p hp
    · exact hv
theorem fits_mono {rs cs rs' cs' : List Int} {bs : List Blk} (h : Fits rs cs bs) (h1 : ∀ x ∈ rs, x ∈ rs') (h2 : ∀ x ∈ cs, x ∈ cs') : Fits rs' cs' bs := fun b hb => ⟨⟨h1 _ (h b hb).rows.1, (h b hb).rows.2.1, fun m e => h1 _ ((h b hb).rows.2.2 m e)⟩, ⟨h2 _ (h b hb).cols.1, (h b hb).cols.2.1, fun m e => h2 _ ((h b hb).cols.2.2 m e)⟩⟩
theorem heldFit_new {rs cs : List Int} (h1 : rs.length ≤ 20) (h2 : cs.length ≤ 20) (m1 : (1 : Int) ∈ rs) (m2 : (1 : Int) ∈ cs) : HeldFit rs cs newH := by
  have f1 : Fine [1] [1] (areaOf [⟨1, 1, none, none⟩]) := (fine_byK kOr fine_new (fine_nil _ _ (by decide) (by decide))).2.2.2
  have f2 : Fine rs cs (areaOf [⟨1, 1, none, none⟩]) := ⟨h1, h2, fits_mono f1.2.2.1 (fun x hx => by rw [List.mem_singleton.mp hx]; exact m1) (fun x hx => by rw [List.mem_singleton.mp hx]; exact m2), f1.2.2.2⟩
  refine ⟨h1, h2, fun p hp => ?_, fun p hp => ?_, by unfold keysH newH; simp⟩
  · rw [List.mem_singleton.mp hp]
    exact f2
  · rw [List.mem_singleton.mp hp]
    exact (by decide +kernel : (PySem.Str.ofString "") ∈ vals14)
abbrev sLFill : Stmt := top 60
abbrev NLFill : List Str := ["_law_table_here", "_law_place", "_law_sheet", "_law_value"]
theorem scLFill : FnScope NLFill ["_law_table_here", "_law_place"] (defScope sLFill) := ⟨rfl, rfl, rfl, by decide +kernel, rfl, by decide +kernel, by decide +kernel⟩
def spLFill (C CA CS : Addr) : Sp := fun vs H Q _ => ∃ (t pl : Addr) (tab : List (List Str)) (n c : Int) (rs cs : List Int), vs = [.ref t, .ref pl] ∧ TabAt H t tab ∧ H pl = some (.tup [.int n, .int c]) ∧ 1 ≤ n ∧ 1 ≤ c ∧ tab.length ≤ 14 ∧ (∀ row ∈ tab, row.length ≤ 14) ∧ (∀ row ∈ tab, ∀ v ∈ row, v ∈ vals13) ∧ rs.length ≤ 20 ∧ cs.length ≤ 20 ∧ (1 : Int) ∈ rs ∧ (1 : Int) ∈ cs ∧ (∀ v, Fits rs cs (tabBlks v n c tab)) ∧
  ∀ H' x dx d, Same H H' → H x = none → H' x = some (.ins CS dx [("held", .ref d)]) → DictAt C CA H' d (filledH tab n c) → Q (.ref x) H'
theorem ok_lfill {f : Addr} {fd : FuncData} (F : FnD K "_law_filled" "_law_filled" sLFill [] f fd) (g : mg "_law_filled" = some (.ref f)) (cS : C8.Mak P w K mg base 9 "Sheet" CS (spSInit C CA CS) []) (cV : C8.Cal P w K mg base 2 "_law_values" spLVals []) (cA : C8.Cal P w K mg base 9 "_law_area" (spLArea C CA) []) (cF : C8.Met P w K mg base 11 CS "fill" (spFill C CA CS) []) : C8.Cal P w K mg base 12 "_law_filled" (spLFill C CA CS) [] := by
  refine calD F g (F.bindsN fun _ _ _ _ _ _ us hl => match us, hl with | [_, _], _ => rfl) .nil scLFill (fun vs H Q E h => ?_) (fun cdv A outer s H vs Q E hr h => ?_)
  · obtain ⟨t, pl, tab, n, c, rs, cs, rfl, _⟩ := h
    rfl
  · obtain ⟨t, pl, tab, n, c, rs, cs, rfl, htab, hpl, hn, hc, zt, zr, zv, z1, z2, m1, m2, hfit, k⟩ := h
    refine ⟨_, pss_cons (ps_set (i := 2) scLFill.nd rfl (Or.inl rfl) (pe_mk0 cS hr (by decide) rfl))
      (pss_cons (ps_for PassesOwn.never rfl (pi_list (C8.pe_c cV hr (by decide) rfl (pa_cons (pv 0) pa_nil))) (pg_name (i := 3) scLFill.nd rfl (.inl rfl))
        (pss_one (ps_expr (C8.pe_mt cF hr (by decide) (pv 2) (pa_cons (C8.pe_c cA hr (by decide) rfl (pa_cons (pv 0) (pa_cons (pv 3) (pa_cons (pv 1) pa_nil)))) (pa_cons (pv 3) pa_nil))))))
      (pss_one (ps_ret (pv 2)))), ?_⟩
    refine fun x dx hx hdx _ => ⟨x, dx, rfl, upd_same, fun H1 d1 keep1 hx1 hd1 => ⟨rfl, ?_⟩⟩
    have s1 : Same H H1 := mk_keep hx hdx keep1
    refine ⟨_, rfl, t, tab, rfl, htab.same' s1, zt, zr, fun H2 p2 s2 hp2 hv2 => ⟨p2, rfl, ⟨_, sql hv2⟩, ?_⟩⟩
    -- the base: all but the sheet
    have np2 : p2 ≠ x := ne_of_none' hp2 hx1
    have sH0 : Same H (delH' H2 x) := del_same (s1.trans s2) hx
    have hv0 : (delH' H2 x) p2 = some (.lst ((valsT tab.flatten).map V.str)) := by rw [del_ne np2]; exact hv2
    have sub0 : Same (delH' H2 x) H2 := del_sub
    have nx0 : (delH' H2 x) x = none := del_self
    have hx2 := s2 _ _ hx1
    have hd2 := hd1.same s2
    generalize delH' H2 x = H0 at sH0 hv0 sub0 nx0
    have hvm : ∀ v ∈ valsT tab.flatten, v ∈ vals14 := fun v hv => by
      obtain ⟨row, hrow, hv⟩ := List.mem_flatten.mp (mem_valsT.mp hv)
      exact List.mem_append_left _ (zv row hrow v hv)
    have fA : ∀ v, Fine rs cs (tabBlks v n c tab) := fun v => ⟨z1, z2, hfit v, by
      have q1 := tabBlks_len v c (k := 14) (t := tab) (n := n) zr
      have : tab.length * 14 ≤ 14 * 14 := Nat.mul_le_mul zt (Nat.le_refl _)
      omega⟩
    have hfitI : ∀ i, HeldFit rs cs (((valsT tab.flatten).take i).foldl (fun h v => fillH h (areaOf (tabBlks v n c tab)) v) newH) := fun i => by
      have : ∀ (l : List Str) (h0 : Held), (∀ v ∈ l, v ∈ vals14) → HeldFit rs cs h0 → HeldFit rs cs (l.foldl (fun h v => fillH h (areaOf (tabBlks v n c tab)) v) h0) := by
        intro l
        induction l with
        | nil => exact fun h0 _ h => h
        | cons v l ih =>
          intro h0 hm h
          exact ih _ (fun u hu => hm u (List.mem_cons_of_mem _ hu)) (h.fill (fine_byK kOr (fA v) (fine_nil rs cs z1 z2)).2.2.2 (hm v (List.mem_cons_self ..)))
      exact this _ _ (fun v hv => hvm v (List.mem_of_mem_take hv)) (heldFit_new z1 z2 m1 m2)
    refine for_listG0 (H0 := H0) (R := StrV) (sql hv0) (strV_all _) (fun i σ H3 => ∃ vv d3, σ = [some (.ref t), some (.ref pl), some (.ref x), vv] ∧ Same H0 H3 ∧ H3 x = some (.ins CS dx [("held", .ref d3)]) ∧ DictAt C CA H3 d3 (((valsT tab.flatten).take i).foldl (fun h v => fillH h (areaOf (tabBlks v n c tab)) v) newH))
      ⟨_, d1, rfl, sub0, hx2, by rw [List.take_zero]; exact hd2⟩ (fun i σ H3 ⟨_, _, _, s3, _⟩ => s3) ?_ ?_
    · rintro i y v σ H3 hi hv rfl ⟨vv, d3, rfl, s3, hx3, hd3⟩
      have hvm' := hvm v (List.mem_of_getElem? hv)
      have sH3 := sH0.trans s3
      refine ⟨_, rfl, x, dx, _, rfl, hx3, h_no (by decide +kernel), _, rfl, _, rfl, _, rfl, t, pl, v, tab, n, c, rs, cs, rfl, htab.same' sH3, sH3 _ _ hpl, hn, hc, zt, zr, fA v, fun H4 z s4 hz => ?_⟩
      refine ⟨_, rfl, x, dx, d3, z, v, _, areaOf (tabBlks v n c tab), rs, cs, rfl, s4 _ _ hx3, hd3.same s4, hz, vals14_ok v hvm', (fine_byK kOr (fA v) (fine_nil rs cs z1 z2)).2.2.2, (hfitI i).fine, (hfitI i).nd, Nat.le_trans (hfitI i).few (by decide), fun H5 d5 keep5 hx5 hd5 => ?_⟩
      refine ⟨_, d5, rfl, fun b o e => keep5 b o (ne_of_none e nx0) (s4 _ _ (s3 _ _ e)), hx5, ?_⟩
      rw [foldl_take hv]
      exact hd5
    · rintro σ H3 ⟨vv, d3, rfl, s3, hx3, hd3⟩
      rw [List.take_of_length_le (Nat.le_refl _)] at hd3
      exact ⟨_, rfl, k H3 x dx d3 (sH0.trans s3) hx hx3 hd3⟩
end
end CB
end
section
set_option maxHeartbeats 4000000
/-! the law's runs, what it is told -/
namespace CB
open PySem PySem.Spec PyProof.Rows L2 CBM
theorem ixN_last (n : Nat) : ixN (n + 1) (-1) = some n := by
  unfold ixN
  rw [if_neg (by decide), if_pos (by omega)]
  congr 1
  omega
/-- a run with its value -/
def RtR (H : Hp) (v : V) (r : RunT) : Prop := ∃ a, v = .ref a ∧ H a = some (.tup [.int r.1, .int r.2.1, .str r.2.2])
theorem RtR.same {H H' : Hp} {v : V} {r : RunT} (e : Same H H') (h : RtR H v r) : RtR H' v r := let ⟨a, h1, h2⟩ := h; ⟨a, h1, e _ _ h2⟩
theorem rt_del {H : Hp} {D : Addr} {acc : List V} {v : V} {r : RunT} (hD : H D = some (.lst acc)) (h : RtR H v r) : RtR (delH' H D) v r := let ⟨a, h1, h2⟩ := h; ⟨a, h1, by rw [del_ne (ne_of h2 hD fun z => nomatch z)]; exact h2⟩
def rtD (r : RunT) : PyData := .tuple [.int r.1, .int r.2.1, .str r.2.2]
theorem rtD_lay {r : RunT} (h : PyData.strOk r.2.2 = true) : (rtD r).canLay0 = true := by simp [rtD, PyData.canLay0, PyData.canLayAll0, h]
theorem rtD_depth (r : RunT) : (rtD r).depth = 1 := by simp [rtD, PyData.depth, PyData.depthAll]
theorem rtD_sh {r : RunT} (h : PyData.strOk r.2.2 = true) : SeqAt.shaped (rtD r) = true := by
  unfold SeqAt.shaped
  rw [rtD_lay h, rtD_depth]
  rfl
theorem rtsD_sh {l : List RunT} (h : ∀ r ∈ l, PyData.strOk r.2.2 = true) : SeqAt.shaped (.list (l.map rtD)) = true := sh_list fun s hs => ⟨rtD_lay (h s hs), by rw [rtD_depth]; decide⟩
theorem rt_dp {K : PySem.W.Frag} {H : Hp} {v : V} {r : RunT} (h : RtR H v r) : Dp K H v (rtD r) := by
  obtain ⟨a, rfl, ha⟩ := h
  exact .tup (sqt ha) (.cons (.int _) (.cons (.int _) (.cons (.str _) .nil)))
theorem rts_dp {K : PySem.W.Frag} {H : Hp} {a : Addr} {l : List RunT} (h : LstOf RtR H a l) : Dp K H (.ref a) (.list (l.map rtD)) := by
  obtain ⟨vs, ha, hp⟩ := h
  exact .lst (sql ha) (dpAll_of (paired_imp (fun _ _ => rt_dp) hp))
theorem eqv_rtD (a b : RunT) : PyData.eqv (rtD a) (rtD b) = decide (a = b) := by
  obtain ⟨a1, a2, a3⟩ := a
  obtain ⟨b1, b2, b3⟩ := b
  show PyData.eqv (.tuple [.int a1, .int a2, .str a3]) (.tuple [.int b1, .int b2, .str b3]) = _
  have e : (a3 == b3) = decide (a3 = b3) := by by_cases h : a3 = b3 <;> simp [h]
  simp [PyData.eqv, PyData.eqvAll, Prod.mk.injEq, Bool.decide_and, bi, e]
section
variable {P : Program} {w : World} {K : PySem.W.Frag} {mg : Str → Option Value} {base : Heap} {C CA CS : Addr}
abbrev sLRuns : Stmt := top 57
abbrev NLRuns : List Str := ["_law_line", "_law_found", "_law_j", "_law_value", "_law_run"]
theorem scLRuns : FnScope NLRuns ["_law_line"] (defScope sLRuns) := ⟨rfl, rfl, rfl, by decide +kernel, rfl, by decide +kernel, by decide +kernel⟩
def spLRuns : Sp := fun vs H Q _ => ∃ (a : Addr) (line : List Str), vs = [.ref a] ∧ H a = some (.lst (line.map V.str)) ∧ line.length ≤ 14 ∧ (∀ v ∈ line, PyData.strOk v = true) ∧ ∀ H' p, Same H H' → H p = none → LstOf RtR H' p (lawRuns line) → Q (.ref p) H'
theorem ok_lruns {f : Addr} {fd : FuncData} (F : FnD K "_law_runs" "_law_runs" sLRuns [] f fd) (g : mg "_law_runs" = some (.ref f)) (B : Bi mg) : C8.Cal P w K mg base 1 "_law_runs" spLRuns [] := by
  refine calD F g (F.bindsN fun _ _ _ _ _ _ us hl => match us, hl with | [_], _ => rfl) .nil scLRuns (fun vs H Q E h => ?_) (fun cdv A outer s H vs Q E hr h => ?_)
  · obtain ⟨a, line, rfl, _⟩ := h
    rfl
  · obtain ⟨a, line, rfl, ha, hz, hok, k⟩ := h
    refine ⟨_, pss_cons (ps_set (i := 1) scLRuns.nd rfl (Or.inl rfl) (pe_lst pa_nil))
      (pss_cons (ps_for PassesOwn.never rfl (pi_enum rfl B.enumerate (pa_cons (pv 0) pa_nil)) (pg_tup rfl (pgs_cons (pg_name (i := 2) scLRuns.nd rfl (.inl rfl)) (pgs_cons (pg_name (i := 3) scLRuns.nd rfl (.inl rfl)) pgs_nil)))
        (pss_one (ps_if (PW.pt (pw_and (pt_cmpR (op_neD hr.units) (pv 1) (pe_lst pa_nil) (nomark _)) (pw_and (pt_cmpR op_eq (pe_ix ix_tup (pe_ix ix_list (pv 1) (pe_un un_neg pe_int) (fun _ _ => rfl)) pe_int (fun _ _ => rfl)) (pe_op op_sub (pv 2) pe_int) (nomark _))
            (pw_and1 (pt_cmpR op_eq (pe_ix ix_tup (pe_ix ix_list (pv 1) (pe_un un_neg pe_int) (fun _ _ => rfl)) pe_int (fun _ _ => rfl)) (pv 3) (nomark _))))))
          (pss_one (ps_asg (pe_tup (pa_cons (pe_ix ix_tup (pe_ix ix_list (pv 1) (pe_un un_neg pe_int) (fun _ _ => rfl)) pe_int (fun _ _ => rfl)) (pa_cons (pv 2) (pa_cons (pv 3) pa_nil)))) (pg_sub (pv 1) (pe_un un_neg pe_int) set_list (by intro _; rfl))))
          (pss_one (ps_expr (pe_bm PySem.F.plainAttrs_list PySem.F.slot_list_append PySem.F.type_list_append mt_append (pv 1) (pa_cons (pe_tup (pa_cons (pv 2) (pa_cons (pv 2) (pa_cons (pv 3) pa_nil)))) pa_nil)))))))
      (pss_one (ps_ret (pe_lc (own := [("_law_run", 4)]) (g := gName 4) rfl scLRuns.nd (pi_list (pv 1)) (blkOk_by (N := NLRuns) (sc := defScope sLRuns) (by decide +kernel))
        (fun _ _ _ _ _ => pg_name (i := 4) scLRuns.nd rfl (Or.inl rfl)) (fun _ _ _ _ _ => pts_one (pt_cmpR op_ne (pe_ix (ixT K) (pv 4) pe_int (fun _ _ => rfl)) pe_str (nomark _))) (fun _ _ _ _ _ => pv 4))))), ?_⟩
    refine ⟨Nat.zero_le _, fun D hD => ?_⟩
    have s0 : Same H (upd H D (.lst [])) := same_new hD
    have hD1 : (upd H D (.lst [])) D = some (.lst ([] : List V)) := upd_same
    generalize upd H D (.lst []) = H1 at s0 hD1
    refine ⟨_, rfl, a, _, rfl, sql (s0 _ _ ha), ?_⟩
    refine for_enumG0 (H0 := H) (R := StrV) (sql ha) (strV_all line) (fun i σ H2 => ∃ jj vv, σ = [some (.ref a), some (.ref D), jj, vv, none] ∧ Same H H2 ∧ LstOf RtR H2 D (lrFold (line.take i) 0 []))
      ⟨_, _, rfl, s0, by rw [List.take_zero]; exact ⟨[], hD1, .nil⟩⟩ (fun i σ H2 ⟨_, _, _, s2, _⟩ => s2) ?_ ?_
    · rintro i x v T σ H2 hi hv rfl ⟨jj, vv, rfl, s2, hb⟩ hT
      have s3 : Same H2 (upd H2 T (.tup [.int (i : Nat), .str v])) := same_new hT
      refine ⟨T, _, rfl, sqt upd_same, rfl, _, _, rfl, _, _, rfl, rfl, ?_⟩
      have s03 := s2.trans s3
      have hb3 := lst_mono (R := RtR) (fun s h => RtR.same s h) s3 hb
      show (tIfS _ _ _) _ _ (upd H2 T (.tup [.int (i : Nat), .str v]))
      generalize upd H2 T (.tup [.int (i : Nat), .str v]) = H3 at s3 s03 hb3
      have et : lrFold (line.take (i + 1)) 0 [] = lrStep (lrFold (line.take i) 0 []) (i : Int) v := by
        rw [take_succ' hv, lrFold_snoc, List.length_take, Nat.min_eq_left (Nat.le_of_lt hi)]
        congr 1
        omega
      have lf : (lrFold (line.take i) 0 []).length ≤ 14 := by
        have q1 := lrFold_len (line.take i) 0 []
        have q2 := List.length_take_le' i line
        simp at q1
        omega
      have hokd : ∀ r ∈ lrFold (line.take i) 0 [], PyData.strOk r.2.2 = true := fun r hr => by
        rcases lrFold_val hr with h | h
        · exact hok _ (List.mem_of_mem_take h)
        · cases h
      generalize lrFold (line.take i) 0 [] = done at hb3 et lf hokd
      refine ⟨_, rfl, Nat.zero_le _, fun p0 hp0 => ?_⟩
      have s4 : Same H3 (upd H3 p0 (.lst [])) := same_new hp0
      have hb4 := lst_mono (R := RtR) (fun s h => RtR.same s h) s4 hb3
      have hp4 : (upd H3 p0 (.lst [])) p0 = some (.lst ([] : List V)) := upd_same
      have s04 := s03.trans s4
      refine ⟨.list (done.map rtD), .list [], rts_dp hb4, nil_dp hp4, rtsD_sh hokd, nil_sh, ?_⟩
      generalize upd H3 p0 (.lst []) = H4 at s4 hb4 hp4 s04
      obtain ⟨xs, hDx, hpx⟩ := id hb4
      have nD4 : H D = none := hD
      have app : lrStep done i v = done ++ [((i : Int), (i : Int), v)] → ∀ t2, H4 t2 = none → ∃ (h1 : True), Same H (upd (upd H4 t2 (.tup [.int (i : Nat), .int (i : Nat), .str v])) D (.lst (xs ++ [.ref t2]))) ∧ LstOf RtR (upd (upd H4 t2 (.tup [.int (i : Nat), .int (i : Nat), .str v])) D (.lst (xs ++ [.ref t2]))) D (lrFold (line.take (i + 1)) 0 []) := fun e t2 ht2 => by
        have s5 := same_new (o := .tup [.int (i : Nat), .int (i : Nat), .str v]) ht2
        refine ⟨trivial, sm_mut (s04.trans s5) hD, ?_⟩
        rw [et, e]
        obtain ⟨acc', h1, h2, h3⟩ := lst_snoc (R := RtR) (y := .ref t2) (m := (((i : Int), (i : Int), v) : RunT)) (fun s h => RtR.same s h) rt_del (lst_mono (R := RtR) (fun s h => RtR.same s h) s5 hb4) ⟨t2, rfl, upd_same⟩
        have e9 := s5 _ _ hDx
        rw [e9] at h1
        cases h1
        exact h3
      rcases List.eq_nil_or_concat done with rfl | ⟨l, q, rfl⟩
      · refine ⟨false, by rw [eqv_nil]; rfl, iteF (iteF ?_)⟩
        refine ⟨_, rfl, Or.inl ⟨rfl, _, sql hDx⟩, _, rfl, _, rfl, _, rfl, (by show 3 ≤ sizeLine; decide), fun t2 ht2 => ⟨D, _, _, rfl, rfl, same_new ht2 _ _ hDx, ?_, ?_⟩⟩
        · rw [Paired.length hpx]
          exact sz_lt (by show 0 < 100000; decide)
        · obtain ⟨_, z1, z2⟩ := app rfl t2 ht2
          exact ⟨_, _, rfl, z1, z2⟩
      · rw [List.concat_eq_append] at *
        obtain ⟨ys, y, rfl, hy, t, rfl, ht⟩ := paired_snoc_inv hpx
        have hyl := Paired.length hy
        rw [List.length_append, List.length_singleton] at lf
        refine ⟨true, by rw [eqv_nil]; cases l <;> rfl, iteT ?_⟩
        rw [lrStep_snoc] at app et
        refine ⟨_, rfl, _, rfl, D, _, _, _, rfl, rfl, sql hDx, atI_last ys (.ref t), t, _, _, _, rfl, rfl, sqt ht, atI_nat (j := 1) rfl, _, rfl, _, _, rfl, rfl, rfl, _, rfl, ?_⟩
        have e1 : decide (V.int q.2.1 = V.int ((i : Int) - 1)) = decide (q.2.1 = (i : Int) - 1) := by by_cases e : q.2.1 = (i : Int) - 1 <;> simp [e]
        show if decide (V.int q.2.1 = V.int ((i : Int) - 1)) = true then _ else _
        rw [e1]
        have other : (l ++ [q]) ++ [((i : Int), (i : Int), v)] = lrStep (l ++ [q]) i v → (tDrop (tBM K "list" rAppend (tVar 1) (tCons (tTup (tCons (tVar 2) (tCons (tVar 2) (tCons (tVar 3) tNil)))) tNil))) { nx := fun σ H2 => ∃ jj vv, σ = [some (.ref a), some (.ref D), jj, vv, none] ∧ Same H H2 ∧ LstOf RtR H2 D (lrFold (line.take (i + 1)) 0 []), rt := Q } [some (.ref a), some (.ref D), some (.int (i : Nat)), some (.str v), none] H4 := fun e => by
          refine ⟨_, rfl, Or.inl ⟨rfl, _, sql hDx⟩, _, rfl, _, rfl, _, rfl, (by show 3 ≤ sizeLine; decide), fun t2 ht2 => ⟨D, _, _, rfl, rfl, same_new ht2 _ _ hDx, ?_, ?_⟩⟩
          · rw [List.length_append, List.length_singleton]
            exact sz_lt (by omega)
          · rw [lrStep_snoc] at e
            obtain ⟨_, z1, z2⟩ := app e.symm t2 ht2
            exact ⟨_, _, rfl, z1, z2⟩
        by_cases hc1 : q.2.1 = (i : Int) - 1
        · rw [decide_eq_true hc1]
          refine iteT ?_
          refine ⟨_, rfl, _, rfl, D, _, _, _, rfl, rfl, sql hDx, atI_last ys (.ref t), t, _, _, _, rfl, rfl, sqt ht, atI_nat (j := 2) rfl, _, rfl, rfl, _, rfl, ?_⟩
          have e2 : decide (V.str q.2.2 = V.str v) = decide (q.2.2 = v) := by by_cases e : q.2.2 = v <;> simp [e]
          show if decide (V.str q.2.2 = V.str v) = true then _ else _
          rw [e2]
          by_cases hc2 : q.2.2 = v
          · rw [decide_eq_true hc2]
            refine iteT ?_
            rw [if_pos ⟨hc1, hc2⟩] at et
            refine ⟨_, rfl, _, rfl, D, _, _, _, rfl, rfl, sql hDx, atI_last ys (.ref t), t, _, _, _, rfl, rfl, sqt ht, atI_nat (j := 0) rfl, _, rfl, _, rfl, (by show 3 ≤ sizeLine; decide), fun t2 ht2 => ?_⟩
            have s5 := same_new (o := .tup [.int q.1, .int (i : Nat), .str v]) ht2
            have hD5 := s5 _ _ hDx
            refine ⟨_, rfl, _, rfl, D, _, -1, ys.length, rfl, rfl, hD5, by rw [List.length_append]; exact ixN_last _, ?_⟩
            refine ⟨_, _, rfl, sm_mut (s04.trans s5) hD, ?_⟩
            rw [et]
            have es : (ys ++ [V.ref t]).set ys.length (.ref t2) = ys ++ [.ref t2] := by simp
            refine ⟨_, upd_same, ?_⟩
            rw [es]
            refine paired_snoc' (paired_imp (fun _ _ z => RtR.same del_upd (rt_del hD5 (RtR.same s5 z))) hy) (RtR.same del_upd (rt_del hD5 ⟨t2, rfl, upd_same⟩))
          · rw [decide_eq_false hc2]
            refine iteF ?_
            rw [if_neg fun z => hc2 z.2] at et
            exact other (by rw [lrStep_snoc, if_neg fun z => hc2 z.2])
        · rw [decide_eq_false hc1]
          refine iteF (iteF ?_)
          exact other (by rw [lrStep_snoc, if_neg fun z => hc1 z.1])
    · rintro σ H2 ⟨jj, vv, rfl, s2, xs, hDx, hpx⟩
      rw [List.take_of_length_le (Nat.le_refl _)] at hpx
      have lf := lrFold_len line 0 []
      simp at lf
      refine ⟨_, rfl, D, rfl, ⟨_, sql hDx⟩, fun E hE => lc_gen (R := RtR) (R' := RtR) (keep := fun q : RunT => !decide (q.2.2 = PySem.Str.ofString "")) (f := fun q => q) hE (sql hDx) hpx (by omega) (fun s h => RtR.same s h) (fun s h => RtR.same s h) rt_del ?_ ?_⟩
      · rintro y q H3 _ hy s3 QT QF g1 g2
        obtain ⟨t, rfl, ht⟩ := id hy
        refine ⟨rfl, _, rfl, t, _, _, _, rfl, rfl, sqt ht, atI_nat (j := 2) rfl, rfl, _, rfl, ?_⟩
        have e1 : (!decide (V.str q.2.2 = V.str (PySem.Str.ofString ""))) = !decide (q.2.2 = PySem.Str.ofString "") := by by_cases e : q.2.2 = PySem.Str.ofString "" <;> simp [e]
        show if (!decide (V.str q.2.2 = V.str (PySem.Str.ofString ""))) = true then _ else _
        rw [e1]
        cases e : (!decide (q.2.2 = PySem.Str.ofString "")) with
        | true => exact iteT (B := QF H3) ⟨_, rfl, g1 e _ H3 (Same.refl _) hy⟩
        | false => exact iteF (g2 e H3 (Same.refl _))
      · intro H3 s3 hL
        rw [List.map_id'] at hL
        exact k H3 E (s2.trans s3) (s2.free hE) hL
end
end CB
end
section
set_option maxHeartbeats 4000000
/-! the law's pairs, what a sheet tells -/
namespace CB
open PySem PySem.Spec PyProof.Rows L2 CBM
/-- a pair as five things -/
def QuR (H : Hp) (v : V) (p : Blk × Str) : Prop := ∃ a, v = .ref a ∧ H a = some (.tup [.int p.1.t, .int p.1.l, oV p.1.b, oV p.1.r, .str p.2])
theorem QuR.same {H H' : Hp} {v : V} {p : Blk × Str} (e : Same H H') (h : QuR H v p) : QuR H' v p := let ⟨a, h1, h2⟩ := h; ⟨a, h1, e _ _ h2⟩
theorem qu_del {H : Hp} {D : Addr} {acc : List V} {v : V} {p : Blk × Str} (hD : H D = some (.lst acc)) (h : QuR H v p) : QuR (delH' H D) v p := let ⟨a, h1, h2⟩ := h; ⟨a, h1, by rw [del_ne (ne_of h2 hD fun z => nomatch z)]; exact h2⟩
def enc5 (p : Blk × Str) : PyData := .tuple [.int p.1.t, .int p.1.l, .int (p.1.b.getD 0), .int (p.1.r.getD 0), .str p.2]
def lawPairs (tab : List (List Txt)) (n c : Int) : List (Blk × Txt) := (lawFound tab n c).mergeSort (PySem.W.dataLe false enc5)
/-! ### the dict of the law's open runs -/
section
variable {P : Program} {w : World}
abbrev tK (r : RunT) : List V := [.int r.1, .int r.2.1, .str r.2.2]
def BegS (e : NEn) (p : RunT × Int) : Prop := e.1 = tK p.1 ∧ e.2.2 = .int p.2
def BegT (P : Program) (w : World) (H : Hp) (d : Addr) (bg : OpnT) : Prop := ∃ es, NDict P w H d es ∧ Paired BegS es bg
theorem BegT.same {H H' : Hp} {d : Addr} {bg : OpnT} (s : Same H H') (h : BegT P w H d bg) : BegT P w H' d bg := let ⟨es, h1, h2⟩ := h; ⟨es, h1.ext s, h2⟩
theorem tK_eq {a b : RunT} : tK a = tK b ↔ a = b := by
  obtain ⟨a1, a2, a3⟩ := a
  obtain ⟨b1, b2, b3⟩ := b
  constructor
  · intro h
    injection h with h1 h
    injection h with h2 h
    injection h with h3 _
    injection h1 with h1
    injection h2 with h2
    injection h3 with h3
    show (a1, a2, a3) = (b1, b2, b3)
    have e1 : a1 = b1 := h1
    have e2 : a2 = b2 := h2
    have e3 : a3 = b3 := h3
    rw [e1, e2, e3]
  · intro h
    rw [h]
theorem begT_get {es : List NEn} {bg : OpnT} (h : Paired BegS es bg) (s : RunT) : getN es (tK s) = (bg.find? fun p => decide (p.1 = s)).map fun p => V.int p.2 := by
  induction h with
  | nil => rfl
  | @cons e p es bg r t ih =>
    unfold getN at ih ⊢
    rw [List.find?_cons, List.find?_cons]
    by_cases hp : p.1 = s
    · rw [decide_eq_true hp, decide_eq_true (by rw [r.1]; exact tK_eq.mpr hp)]
      exact congrArg some r.2
    · rw [decide_eq_false hp, decide_eq_false (by rw [r.1]; exact fun z => hp (tK_eq.mp z))]
      exact ih
theorem begT_del {es : List NEn} {bg : OpnT} (h : Paired BegS es bg) (s : RunT) : Paired BegS (delN es (tK s)) (bg.filter fun p => decide (p.1 ≠ s)) := by
  induction h with
  | nil => exact .nil
  | @cons e p es bg r t ih =>
    unfold delN at ih ⊢
    rw [List.filter_cons, List.filter_cons]
    by_cases hp : p.1 = s
    · rw [if_neg (by rw [r.1]; simp [tK_eq.mpr hp]), if_neg (by simp [hp])]
      exact ih
    · rw [if_pos (decide_eq_true (by rw [r.1]; exact fun z => hp (tK_eq.mp z))), if_pos (by simp [hp])]
      exact .cons r ih
theorem begT_del' {H : Hp} {D d : Addr} {bg : OpnT} {o : HO} (hD : H D = some o) (ho : isExt o = false) (ht : ∀ ks, o ≠ .tup ks) (h : BegT P w H d bg) : BegT P w (delH' H D) d bg := by
  obtain ⟨es, ⟨xs, h1, h2, h3⟩, h4⟩ := h
  refine ⟨es, ⟨xs, by rw [del_ne (ne_of h1 hD (dn_ne ho))]; exact h1, h2, fun e he => ⟨(h3 e he).1, ?_⟩⟩, h4⟩
  rw [del_ne (ne_of (h3 e he).2 hD fun z => ht _ z.symm)]
  exact (h3 e he).2
theorem tK_flat (r : RunT) : (tK r).all kfl = true := rfl
end
/-- one key is taken out of what is left (any keys) -/
theorem pop_leftG {κ : Type} [DecidableEq κ] {bg : List (κ × Int)} {e : κ × Int → Bool} {j : Nat} {p : κ × Int} (nd : (bg.map (·.1)).Nodup) (h : bg[j]? = some p) (hp : e p = true) :
    ((bg.take j).filter (fun q => !e q) ++ bg.drop j).filter (fun q => decide (q.1 ≠ p.1)) = (bg.take (j + 1)).filter (fun q => !e q) ++ bg.drop (j + 1) := by
  have hl : j < bg.length := (List.getElem?_eq_some_iff.mp h).1
  have hd : bg.drop j = p :: bg.drop (j + 1) := by
    rw [List.getElem?_eq_getElem hl] at h
    cases h
    exact (List.drop_eq_getElem_cons hl)
  have hsp : bg = bg.take j ++ (p :: bg.drop (j + 1)) := by rw [← hd, List.take_append_drop]
  have nd2 := nd
  rw [hsp, List.map_append, List.map_cons] at nd2
  obtain ⟨n1, n2, n3⟩ := List.nodup_append.mp nd2
  have h1 : ((bg.take j).filter (fun q => !e q)).filter (fun q => decide (q.1 ≠ p.1)) = (bg.take j).filter (fun q => !e q) := List.filter_eq_self.mpr fun q hq => by
    have hq2 := (List.mem_filter.mp hq).1
    exact decide_eq_true fun z => n3 q.1 (List.mem_map.mpr ⟨q, hq2, rfl⟩) p.1 (List.mem_cons_self ..) z
  have h2 : (bg.drop (j + 1)).filter (fun q => decide (q.1 ≠ p.1)) = bg.drop (j + 1) := List.filter_eq_self.mpr fun q hq =>
    decide_eq_true fun z => (List.nodup_cons.mp n2).1 (List.mem_map.mpr ⟨q, hq, z⟩)
  rw [List.filter_append, h1, hd, List.filter_cons, if_neg (by simp), h2, List.take_add_one, h, Option.toList_some, List.filter_append]
  simp [hp]
theorem keep_leftG {κ : Type} {bg : List (κ × Int)} {e : κ × Int → Bool} {j : Nat} {p : κ × Int} (h : bg[j]? = some p) (hp : e p = false) :
    (bg.take j).filter (fun q => !e q) ++ bg.drop j = (bg.take (j + 1)).filter (fun q => !e q) ++ bg.drop (j + 1) := by
  have hl : j < bg.length := (List.getElem?_eq_some_iff.mp h).1
  have hd : bg.drop j = p :: bg.drop (j + 1) := by
    rw [List.getElem?_eq_getElem hl] at h
    cases h
    exact (List.drop_eq_getElem_cons hl)
  rw [hd, List.take_add_one, h, Option.toList_some, List.filter_append]
  simp [hp]
theorem find_leftG {κ : Type} [DecidableEq κ] {bg : List (κ × Int)} {e : κ × Int → Bool} {j : Nat} {p : κ × Int} (nd : (bg.map (·.1)).Nodup) (h : bg[j]? = some p) : ((bg.take j).filter (fun q => !e q) ++ bg.drop j).find? (fun q => decide (q.1 = p.1)) = some p := by
  have hl : j < bg.length := (List.getElem?_eq_some_iff.mp h).1
  have hd : bg.drop j = p :: bg.drop (j + 1) := by
    rw [List.getElem?_eq_getElem hl] at h
    cases h
    exact (List.drop_eq_getElem_cons hl)
  have hsp : bg = bg.take j ++ (p :: bg.drop (j + 1)) := by rw [← hd, List.take_append_drop]
  have nd2 := nd
  rw [hsp, List.map_append, List.map_cons] at nd2
  obtain ⟨n1, n2, n3⟩ := List.nodup_append.mp nd2
  have h1 : ((bg.take j).filter (fun q => !e q)).find? (fun q => decide (q.1 = p.1)) = none := List.find?_eq_none.mpr fun q hq => by
    have hq2 := (List.mem_filter.mp hq).1
    have := n3 q.1 (List.mem_map.mpr ⟨q, hq2, rfl⟩) p.1 (List.mem_cons_self ..)
    simpa using this
  rw [List.find?_append, h1, hd, List.find?_cons]
  simp
section
variable {P : Program} {w : World} {K : PySem.W.Frag} {mg : Str → Option Value} {base : Heap} {C CA CS : Addr}
abbrev sLTold : Stmt := top 59
theorem scLTold : FnScope ["_law_sheet", "_law_block", "_law_value"] ["_law_sheet"] (defScope sLTold) := ⟨rfl, rfl, rfl, by decide +kernel, rfl, by decide +kernel, by decide +kernel⟩
def spLTold (C CA CS : Addr) : Sp := fun vs H Q _ => ∃ (v : V) (h : Held), vs = [v] ∧ SheetAt C CA CS H v h ∧ h.length ≤ 60 ∧ (∀ p ∈ h, p.2.length ≤ 600) ∧ ∀ H' p, Same H H' → H p = none → LstOf QuR H' p (pairsH h) → Q (.ref p) H'
theorem ok_ltold {f : Addr} {fd : FuncData} (F : FnD K "_law_told" "_law_told" sLTold [] f fd) (g : mg "_law_told" = some (.ref f)) (T : BK K mg C) (cP : C8.Met P w K mg base 5 CS "pairs" (spPairs C CA CS) []) : C8.Cal P w K mg base 6 "_law_told" (spLTold C CA CS) [] := by
  refine calD F g (F.bindsN fun _ _ _ _ _ _ us hl => match us, hl with | [_], _ => rfl) .nil scLTold (fun vs H Q E h => ?_) (fun cdv A outer s H vs Q E hr h => ?_)
  · obtain ⟨v, h, rfl, _⟩ := h
    rfl
  · obtain ⟨v, h, rfl, hS, zh, zf, k⟩ := h
    obtain ⟨a, dx, d, rfl, ha, hd⟩ := id hS
    refine ⟨_, pss_one (ps_ret (pe_lc (own := [("_law_block", 1), ("_law_value", 2)]) (g := gTup K 2 (gCons (gName 1) (gCons (gName 2) gNil))) (tt := tYes) rfl scLTold.nd (pi_list (C8.pe_mt0 cP hr (by decide) (pv 0))) (blkOk_by (N := ["_law_sheet", "_law_block", "_law_value"]) (sc := defScope sLTold) (by decide +kernel))
      (fun _ _ _ _ _ => pg_tup rfl (pgs_cons (pg_name (i := 1) scLTold.nd rfl (Or.inl rfl)) (pgs_cons (pg_name (i := 2) scLTold.nd rfl (Or.inl rfl)) pgs_nil))) (fun _ _ _ _ _ => pts_nil)
      (fun _ _ _ _ _ => pe_tup (pa_cons (pe_fldK K (pv 1)) (pa_cons (pe_fldK K (pv 1)) (pa_cons (pe_fldK K (pv 1)) (pa_cons (pe_fldK K (pv 1)) (pa_cons (pv 2) pa_nil)))))))), ?_⟩
    refine ⟨_, rfl, a, dx, _, rfl, ha, h_no (by decide +kernel), _, h, rfl, hS, zh, zf, fun H1 p1 s1 hp1 ⟨xs, hx, hpx⟩ => ⟨p1, rfl, ⟨_, sql hx⟩, fun D hD => lc_gen (R := PartAt C) (R' := QuR) (keep := fun _ => true) (f := fun p => p) hD (sql hx) hpx ?_ (fun s h => PartAt.same s h) (fun s h => QuR.same s h) qu_del ?_ ?_⟩⟩
    · have q1 := parts_len zf
      have q2 : (CBM.pairsH h).length = (partsH h).length := by
        unfold CBM.pairsH
        rw [List.length_mergeSort]
      have : 600 * h.length ≤ 600 * 60 := Nat.mul_le_mul_left _ zh
      omega
    · rintro y p H3 _ ⟨t, u, rfl, ht, hu⟩ s3 QT QF g1 g2
      obtain ⟨b, dxb, rfl, hb⟩ := hu
      refine ⟨t, _, rfl, sqt ht, rfl, _, _, rfl, _, _, rfl, rfl, rfl, iteT (B := QF H3) ⟨_, rfl, b, C, dxb, _, _, rfl, hb, T.cl, T.nt, bF_top, _, rfl, b, C, dxb, _, _, rfl, hb, T.cl, T.nl, bF_left, _, rfl, b, C, dxb, _, _, rfl, hb, T.cl, T.nb, bF_bottom, _, rfl, b, C, dxb, _, _, rfl, hb, T.cl, T.nr, bF_right, _, rfl, (by show 5 ≤ sizeLine; decide), fun q hq => g1 rfl _ _ (same_new hq) ⟨q, rfl, upd_same⟩⟩⟩
    · intro H3 s3 hL
      rw [filtT, List.map_id'] at hL
      exact k H3 D (s1.trans s3) (s1.free hD) hL
end
end CB
end
section
set_option maxHeartbeats 4000000
/-! the law's pairs by its own look at rows -/
namespace CB
open PySem PySem.Spec PyProof.Rows L2 CBM
theorem qus_deld {P : Program} {w : World} {H : Hp} {D d : Addr} {bs : List (Blk × Str)} {xs : List (NestedKey × Addr × Value)} (hd : H d = some (dnO P w d xs)) (h : LstOf QuR H D bs) : LstOf QuR (delH' H d) D bs := by
  obtain ⟨vs, h1, h2⟩ := h
  exact ⟨vs, by rw [del_ne (ne_of h1 hd fun z => nomatch z)]; exact h1, paired_imp (fun _ _ ⟨a, z1, z2⟩ => ⟨a, z1, by rw [del_ne (ne_of z2 hd fun z => nomatch z)]; exact z2⟩) h2⟩
section
variable {P : Program} {w : World} {K : PySem.W.Frag} {mg : Str → Option Value} {base : Heap} {C CA CS : Addr}
abbrev sLPairs : Stmt := top 58
abbrev NLPairs : List Str := ["_law_table_here", "_law_place", "_law_found", "_law_begun", "_law_i", "_law_line", "_law_runs_here", "_law_run", "_law_top"]
theorem scLPairs : FnScope NLPairs ["_law_table_here", "_law_place"] (defScope sLPairs) := ⟨rfl, rfl, rfl, by decide +kernel, rfl, by decide +kernel, by decide +kernel⟩
def spLPairs : Sp := fun vs H Q _ => ∃ (t pl : Addr) (tab : List (List Str)) (n c : Int), vs = [.ref t, .ref pl] ∧ TabAt H t tab ∧ H pl = some (.tup [.int n, .int c]) ∧ tab.length ≤ 14 ∧ (∀ row ∈ tab, row.length ≤ 14) ∧ (∀ row ∈ tab, ∀ v ∈ row, PyData.strOk v = true) ∧ (∀ p ∈ lawFound tab n c, ∃ m q, p.1.b = some m ∧ p.1.r = some q) ∧ ∀ H' p, Same H H' → H p = none → LstOf QuR H' p (lawPairs tab n c) → Q (.ref p) H'
theorem ok_lpairs {f : Addr} {fd : FuncData} (F : FnD K "_law_pairs" "_law_pairs" sLPairs [] f fd) (g : mg "_law_pairs" = some (.ref f)) (B : Bi mg) (cR : C8.Cal P w K mg base 1 "_law_runs" spLRuns []) : C8.Cal P w K mg base 2 "_law_pairs" spLPairs [] := by
  refine calD F g (F.bindsN fun _ _ _ _ _ _ us hl => match us, hl with | [_, _], _ => rfl) .nil scLPairs (fun vs H Q E h => ?_) (fun cdv A outer s H vs Q E hr h => ?_)
  · obtain ⟨t, pl, tab, n, c, rfl, _⟩ := h
    rfl
  · obtain ⟨t, pl, tab, n, c, rfl, ⟨xs, ht, hp⟩, hpl, zt, zr, zok, hfin, k⟩ := h
    refine ⟨_, pss_cons (ps_set (i := 2) scLPairs.nd rfl (Or.inl rfl) (pe_lst pa_nil))
      (pss_cons (ps_set (i := 3) scLPairs.nd rfl (Or.inl rfl) (pe_nnewP P w rfl rfl))
      (pss_cons (ps_for PassesOwn.never rfl (pi_enum rfl B.enumerate (pa_cons (pe_op op_cat (pv 0) (pe_lst (pa_cons (pe_lst pa_nil) pa_nil))) pa_nil)) (pg_tup rfl (pgs_cons (pg_name (i := 4) scLPairs.nd rfl (.inl rfl)) (pgs_cons (pg_name (i := 5) scLPairs.nd rfl (.inl rfl)) pgs_nil)))
        (pss_cons (ps_set (i := 6) scLPairs.nd rfl (Or.inl rfl) (C8.pe_c cR hr (by decide) rfl (pa_cons (pv 5) pa_nil)))
        (pss_cons (ps_for PassesOwn.never rfl (pi_list (pe_callTy (call_listN rfl) rfl B.list (by decide +kernel) (pa_cons (pv 3) pa_nil))) (pg_name (i := 7) scLPairs.nd rfl (.inl rfl))
          (pss_one (ps_if (pt_cmpR (op_notInD (u65 hr)) (pv 7) (pv 6) (by rfl))
            (pss_cons (ps_set (i := 8) scLPairs.nd rfl (Or.inl rfl) (pe_npop hr (pv 3) (pv 7) ⟨rfl, rfl, rfl, rfl⟩))
            (pss_one (ps_expr (pe_bm PySem.F.plainAttrs_list PySem.F.slot_list_append PySem.F.type_list_append mt_append (pv 2) (pa_cons (pe_tup
              (pa_cons (pe_op op_add (pe_ix ix_tup (pv 1) pe_int (fun _ _ => rfl)) (pv 8)) (pa_cons (pe_op op_add (pe_ix ix_tup (pv 1) pe_int (fun _ _ => rfl)) (pe_ix ix_tup (pv 7) pe_int (fun _ _ => rfl)))
              (pa_cons (pe_op op_sub (pe_op op_add (pe_ix ix_tup (pv 1) pe_int (fun _ _ => rfl)) (pv 4)) pe_int) (pa_cons (pe_op op_add (pe_ix ix_tup (pv 1) pe_int (fun _ _ => rfl)) (pe_ix ix_tup (pv 7) pe_int (fun _ _ => rfl))) (pa_cons (pe_ix ix_tup (pv 7) pe_int (fun _ _ => rfl)) pa_nil)))))) pa_nil))))) pss_nil)))
        (pss_one (ps_for PassesOwn.never rfl (pi_list (pv 6)) (pg_name (i := 7) scLPairs.nd rfl (.inl rfl)) (pss_one (ps_expr (pe_nsetd hr (pv 3) (pv 7) (pv 4) ⟨rfl, rfl, rfl, rfl⟩))))))))
      (pss_one (ps_ret (pe_callB (call_sortedL (X := _) hr) rfl B.sorted (by decide +kernel) (pa_cons (pv 2) pa_nil)))))), ?_⟩
    refine ⟨Nat.zero_le _, fun D hD => ?_⟩
    refine fun d hd hnd => ?_
    have nDd : D ≠ d := fun z => by
      rw [← z, upd_same] at hd
      cases hd
    have hdH : H d = none := by rw [upd_ne nDd.symm] at hd; exact hd
    have s2 : Same H (upd (upd H D (.lst [])) d (dnO P w d [])) := (same_new hD).trans (same_new hd)
    have hD2 : (upd (upd H D (.lst [])) d (dnO P w d [])) D = some (.lst ([] : List V)) := by rw [upd_ne nDd, upd_same]
    have hbeg : BegT P w (upd (upd H D (.lst [])) d (dnO P w d [])) d [] := ⟨[], hnd, .nil⟩
    clear hnd hd
    generalize upd (upd H D (.lst [])) d (dnO P w d []) = H2 at s2 hD2 hbeg
    -- table + [[]]
    refine ⟨_, rfl, Nat.zero_le _, fun e0 he0 => ⟨(by show 1 ≤ sizeLine; decide), fun e1 he1 => ?_⟩⟩
    have s3 := same_new (o := .lst []) he0
    have s4 := same_new (o := .lst [.ref e0]) he1
    have he0' : (upd (upd H2 e0 (.lst [])) e1 (.lst [.ref e0])) e0 = some (.lst ([] : List V)) := s4 _ _ upd_same
    have he1' : (upd (upd H2 e0 (.lst [])) e1 (.lst [.ref e0])) e1 = some (.lst [.ref e0]) := upd_same
    have s24 := s3.trans s4
    have n0D : e0 ≠ D := ne_of_none' he0 hD2
    have n0d : e0 ≠ d := fun z => by
      obtain ⟨_, ⟨_, q, _⟩, _⟩ := hbeg
      rw [z, q] at he0
      cases he0
    generalize upd (upd H2 e0 (.lst [])) e1 (.lst [.ref e0]) = H3 at s24 he0' he1'
    have s03 := s2.trans s24
    have ht3 := s03 _ _ ht
    refine ⟨t, e1, xs, _, rfl, rfl, ht3, he1', sz_le (by rw [Paired.length hp, List.length_singleton]; omega), fun e2 he2 => ?_⟩
    have s5 := same_new (o := .lst (xs ++ [.ref e0])) he2
    have he2' : (upd H3 e2 (.lst (xs ++ [.ref e0]))) e2 = some (.lst (xs ++ [.ref e0])) := upd_same
    have hD5 := (s24.trans s5) _ _ hD2
    have hb5 := hbeg.same (s24.trans s5)
    have s05 := s03.trans s5
    have he05 := s5 _ _ he0'
    have n2D : e2 ≠ D := ne_of_none' he2 (s24 _ _ hD2)
    have n2d : e2 ≠ d := fun z => by
      obtain ⟨_, ⟨_, q, _⟩, _⟩ := hbeg
      rw [z, s24 _ _ q] at he2
      cases he2
    generalize upd H3 e2 (.lst (xs ++ [.ref e0])) = H5 at he2' hD5 hb5 s05 he05 s5
    have sH0 : Same H (del2 H5 D d) := del2_same s05 hD hdH
    have hq0 : (del2 H5 D d) e2 = some (.lst (xs ++ [.ref e0])) := by rw [del2_ne n2D n2d]; exact he2'
    have he00 : (del2 H5 D d) e0 = some (.lst ([] : List V)) := by rw [del2_ne n0D n0d]; exact he05
    have hrows : Paired (RowR (del2 H5 D d)) (xs ++ [.ref e0]) (tab ++ [[]]) := paired_snoc' (paired_imp (fun _ _ z => RowR.same sH0 z) hp) ⟨e0, rfl, he00⟩
    have sub0 : Same (del2 H5 D d) H5 := del2_sub
    have nD0 : (del2 H5 D d) D = none := del2_1 nDd
    have nd0 : (del2 H5 D d) d = none := del2_2
    refine ⟨e2, _, rfl, sql he2', ?_⟩
    generalize del2 H5 D d = H0 at sH0 hq0 hrows sub0 nD0 nd0
    have hpl0 := sH0 _ _ hpl
    have zrE : ∀ row ∈ tab ++ [[]], row.length ≤ 14 := fun row hrow => by
      rcases List.mem_append.mp hrow with h | h
      · exact zr row h
      · rw [List.mem_singleton.mp h]
        exact Nat.zero_le _
    have zokE : ∀ row ∈ tab ++ [[]], ∀ v ∈ row, PyData.strOk v = true := fun row hrow v hv => by
      rcases List.mem_append.mp hrow with h | h
      · exact zok row h v hv
      · rw [List.mem_singleton.mp h] at hv
        cases hv
    refine for_enumG0 (H0 := H0) (R := RowR) (sql hq0) hrows (fun i σ H6 => ∃ ii ln rh ru tp, σ = [some (.ref t), some (.ref pl), some (.ref D), some (.ref d), ii, ln, rh, ru, tp] ∧ Same H0 H6 ∧ LstOf QuR H6 D (lpFold n c ((tab ++ [[]]).take i) 0 ⟨[], []⟩).found ∧ BegT P w H6 d (lpFold n c ((tab ++ [[]]).take i) 0 ⟨[], []⟩).begun)
      ⟨_, _, _, _, _, rfl, sub0, by rw [List.take_zero]; exact ⟨[], hD5, .nil⟩, by rw [List.take_zero]; exact hb5⟩ (fun i σ H6 ⟨_, _, _, _, _, _, s6, _⟩ => s6) ?_ ?_
    · rintro i x row T σ H6 hi hrow ⟨ra, rfl, hra⟩ ⟨ii, ln, rh, ru, tp, rfl, s6, hfo, hbg⟩ hT
      have hrm := List.mem_of_getElem? hrow
      obtain ⟨fnd, flen⟩ := lpFold_ok (n := n) (c := c) (k := 14) (l := (tab ++ [[]]).take i) (i := 0) (st := ⟨[], []⟩) (fun r hr => zrE r (List.mem_of_mem_take hr)) List.nodup_nil
      have flen' : (lpFold n c ((tab ++ [[]]).take i) 0 ⟨[], []⟩).found.length + (lpFold n c ((tab ++ [[]]).take i) 0 ⟨[], []⟩).begun.length ≤ 210 := by
        have q2 : ((tab ++ [[]]).take i).length ≤ 15 := by
          have := List.length_take_le' i (tab ++ [[]])
          rw [List.length_append, List.length_singleton] at this
          omega
        have : ((tab ++ [[]]).take i).length * 14 ≤ 15 * 14 := Nat.mul_le_mul q2 (Nat.le_refl _)
        simp at flen
        omega
      clear flen
      have et : lpFold n c ((tab ++ [[]]).take (i + 1)) 0 ⟨[], []⟩ = lpStep n c (lpFold n c ((tab ++ [[]]).take i) 0 ⟨[], []⟩) (i : Int) (lawRuns row) := by
        rw [take_succ' hrow, lpFold_snoc, List.length_take, Nat.min_eq_left (Nat.le_of_lt hi)]
        congr 1
        omega
      have bok : ∀ p ∈ (lpFold n c ((tab ++ [[]]).take i) 0 ⟨[], []⟩).begun, PyData.strOk p.1.2.2 = true := fun p hp => by
        rcases lpFold_val hp with ⟨row, h1, h2⟩ | h
        · exact zokE row (List.mem_of_mem_take h1) _ (lawRuns_val h2)
        · cases h
      generalize lpFold n c ((tab ++ [[]]).take i) 0 ⟨[], []⟩ = st at hfo hbg et fnd flen' bok
      have s7 : Same H6 (upd H6 T (.tup [.int (i : Nat), .ref ra])) := same_new hT
      refine ⟨T, _, rfl, sqt upd_same, rfl, _, _, rfl, _, _, rfl, rfl, ?_⟩
      have s07 := s6.trans s7
      have hfo7 := lst_mono (R := QuR) (fun s h => QuR.same s h) s7 hfo
      have hbg7 := hbg.same s7
      show (tSeq _ _) _ _ (upd H6 T (.tup [.int (i : Nat), .ref ra]))
      generalize upd H6 T (.tup [.int (i : Nat), .ref ra]) = H7 at s7 s07 hfo7 hbg7
      have hrl := lawRuns_len row
      have hrow14 := zrE row hrm
      have hrok : ∀ r ∈ lawRuns row, PyData.strOk r.2.2 = true := fun r hr => zokE row hrm _ (lawRuns_val hr)
      refine ⟨_, rfl, ra, row, rfl, s07 _ _ hra, hrow14, zokE row hrm, fun H8 rq s8 hrq hrs => ?_⟩
      generalize lawRuns row = rs at hrs et hrl hrok
      have hfo8 := lst_mono (R := QuR) (fun s h => QuR.same s h) s8 hfo7
      have hbg8 := hbg7.same s8
      have s08 := s07.trans s8
      obtain ⟨es, hnd, hes⟩ := id hbg8
      obtain ⟨xs0, hdx, hpx, hkx⟩ := id hnd
      obtain ⟨vf, hDf, hpf⟩ := id hfo8
      obtain ⟨xrs, hrsx, hrsp⟩ := id hrs
      have nrqD : rq ≠ D := fun z => by
        obtain ⟨vf7, q, _⟩ := hfo7
        rw [z, q] at hrq
        cases hrq
      have nrqd : rq ≠ d := fun z => by
        obtain ⟨_, ⟨_, q, _⟩, _⟩ := hbg7
        rw [z, q] at hrq
        cases hrq
      refine ⟨_, rfl, d, es, rfl, hnd, fun p5 hp5 => ?_⟩
      have s9 := same_new (o := .lst (es.map fun e => V.ref e.2.1)) hp5
      have np5D : p5 ≠ D := ne_of_none' hp5 hDf
      have np5d : p5 ≠ d := ne_of_none' hp5 hdx
      have hl9 : (upd H8 p5 (.lst (es.map fun e => V.ref e.2.1))) p5 = some (.lst (es.map fun e => V.ref e.2.1)) := upd_same
      have hfo9 := lst_mono (R := QuR) (fun s h => QuR.same s h) s9 hfo8
      have hbg9 := hbg8.same s9
      have hrs9 := lst_mono (R := RtR) (fun s h => RtR.same s h) s9 hrs
      have hD9 := s9 _ _ hDf
      have hd9 := s9 _ _ hdx
      have hk9 : ∀ e ∈ es, (upd H8 p5 (.lst (es.map fun e => V.ref e.2.1))) e.2.1 = some (.tup e.1) := fun e he => s9 _ _ (hkx e he).2
      have s09 := s08.trans s9
      have hrq9 := s9 _ _ hrsx
      generalize upd H8 p5 (.lst (es.map fun e => V.ref e.2.1)) = H9 at s9 hl9 hfo9 hbg9 hrs9 hD9 hd9 hk9 s09 hrq9
      have sB : Same H0 (del2 H9 D d) := del2_same s09 nD0 nd0
      have hl5' : (del2 H9 D d) p5 = some (.lst (es.map fun e => V.ref e.2.1)) := by rw [del2_ne np5D np5d]; exact hl9
      have nb : ∀ {c : Addr} {ks : List V}, H9 c = some (.tup ks) → (del2 H9 D d) c = some (.tup ks) := fun {c ks} e => by
        rw [del2_ne (ne_of e hD9 fun z => nomatch z) (ne_of e hd9 fun z => nomatch z)]
        exact e
      have hits : Paired (fun v p => RtR (del2 H9 D d) v p.1) (es.map fun e => V.ref e.2.1) st.begun := by
        clear hnd hpx hkx hl9 hl5' hbg8 hbg9 hbg7 hbg fnd flen' et bok
        generalize st.begun = bg at hes
        induction hes with
        | nil => exact .nil
        | @cons e0 p0 es0 bg0 r1 _ ih => exact .cons ⟨e0.2.1, rfl, nb (by rw [hk9 e0 (List.mem_cons_self ..), r1.1])⟩ (ih fun e he => hk9 e (List.mem_cons_of_mem _ he))
      have hrsB : LstOf RtR (del2 H9 D d) rq rs := by
        obtain ⟨ws, w1, w2⟩ := hrs9
        exact ⟨ws, by rw [del2_ne nrqD nrqd]; exact w1, paired_imp (fun _ _ ⟨a, z1, z2⟩ => ⟨a, z1, nb z2⟩) w2⟩
      have s55 : Same (del2 H9 D d) H9 := del2_sub
      have nDB : (del2 H9 D d) D = none := del2_1 nDd
      have ndB : (del2 H9 D d) d = none := del2_2
      refine ⟨p5, rfl, ⟨_, sql hl9⟩, ?_⟩
      generalize del2 H9 D d = HB at sB hl5' hits s55 nDB ndB hrsB
      have hplB := sB _ _ hpl0
      refine for_listG0 (H0 := HB) (R := fun H v (p : RunT × Int) => RtR H v p.1) (sql hl5') hits (fun j σ H10 => ∃ ru tp, σ = [some (.ref t), some (.ref pl), some (.ref D), some (.ref d), some (.int (i : Nat)), some (.ref ra), some (.ref rq), ru, tp] ∧ Same HB H10 ∧ LstOf QuR H10 D (st.found ++ ((st.begun.take j).filter (fun p => decide (p.1 ∉ rs))).map (mkT n c i)) ∧ BegT P w H10 d ((st.begun.take j).filter (fun p => !decide (p.1 ∉ rs)) ++ st.begun.drop j))
        ⟨_, _, rfl, s55, by rw [List.take_zero, List.filter_nil, List.map_nil, List.append_nil]; exact hfo9, by rw [List.take_zero, List.filter_nil, List.drop_zero]; exact hbg9⟩ (fun j σ H10 ⟨_, _, _, s6, _⟩ => s6) ?_ ?_
      · rintro j x pr σ H10 hj hpr ⟨kt, rfl, hkt⟩ ⟨ru', tp', rfl, s10, hf10, hb10⟩
        have hk10 := s10 _ _ hkt
        have hrs10 := lst_mono (R := RtR) (fun s h => RtR.same s h) s10 hrsB
        have e1 : (!(rs.map rtD).any fun z => PyData.eqv z (rtD pr.1)) = decide (pr.1 ∉ rs) := by
          rw [List.any_map]
          have : (rs.any ((fun z => PyData.eqv z (rtD pr.1)) ∘ rtD)) = decide (pr.1 ∈ rs) := by
            rw [Bool.eq_iff_iff, List.any_eq_true, decide_eq_true_iff]
            constructor
            · rintro ⟨z, hz, e⟩
              have e' : PyData.eqv (rtD z) (rtD pr.1) = true := e
              rw [eqv_rtD] at e'
              rw [← of_decide_eq_true e']
              exact hz
            · intro hz
              refine ⟨_, hz, ?_⟩
              show PyData.eqv (rtD pr.1) (rtD pr.1) = true
              rw [eqv_rtD]
              exact decide_eq_true rfl
          rw [this]
          simp
        have fl10 : (st.found ++ ((st.begun.take j).filter (fun p => decide (p.1 ∉ rs))).map (mkT n c i)).length ≤ 210 := by
          rw [List.length_append, List.length_map]
          have h1 := List.length_filter_le (fun p : RunT × Int => decide (p.1 ∉ rs)) (st.begun.take j)
          have h2 : (st.begun.take j).length ≤ st.begun.length := List.length_take_le' j _
          omega
        refine ⟨_, rfl, _, rfl, rtD pr.1, rs.map rtD, rt_dp ⟨kt, rfl, hk10⟩, rts_dp hrs10, rtD_sh (bok pr (List.mem_of_getElem? hpr)), rtsD_sh hrok, decide (pr.1 ∉ rs), by rw [e1], ?_⟩
        by_cases hin : pr.1 ∈ rs
        · have hE : decide (pr.1 ∉ rs) = false := decide_eq_false fun z => z hin
          rw [hE]
          refine iteF ⟨_, _, rfl, s10, ?_, ?_⟩
          · have e3 : ((st.begun.take (j + 1)).filter (fun p => decide (p.1 ∉ rs))).map (mkT n c i) = ((st.begun.take j).filter (fun p => decide (p.1 ∉ rs))).map (mkT n c i) := by
              rw [take_succ' hpr, List.filter_append, List.map_append]
              simp [hin]
            rw [e3]
            exact hf10
          · have e4 := keep_leftG (e := fun p : RunT × Int => decide (p.1 ∉ rs)) hpr hE
            rw [← e4]
            exact hb10
        · have hE : decide (pr.1 ∉ rs) = true := decide_eq_true hin
          rw [hE]
          refine iteT ?_
          obtain ⟨es8, hn8, hp8⟩ := id hb10
          refine ⟨_, rfl, d, es8, rfl, hn8, _, rfl, kt, _, .int pr.2, es8, rfl, hk10, tK_flat pr.1, hn8, ?_, fun H11 hn11 keep11 back11 => ?_⟩
          · rw [begT_get hp8, find_leftG fnd hpr]
            rfl
          obtain ⟨xs8, hd8, _, _⟩ := id hn8
          have s11 : Same (delH' H10 d) H11 := same_del keep11
          have sB11 : Same HB H11 := (del_same s10 ndB).trans s11
          have hf11 : LstOf QuR H11 D (st.found ++ ((st.begun.take j).filter (fun p => decide (p.1 ∉ rs))).map (mkT n c i)) := lst_mono (R := QuR) (fun s h => QuR.same s h) s11 (qus_deld hd8 hf10)
          have hk11 := sB11 _ _ hkt
          have hpl11 := sB11 _ _ hplB
          have hb11 : BegT P w H11 d ((st.begun.take (j + 1)).filter (fun p => !decide (p.1 ∉ rs)) ++ st.begun.drop (j + 1)) := by
            have e4 := pop_leftG (e := fun p : RunT × Int => decide (p.1 ∉ rs)) fnd hpr hE
            rw [← e4]
            exact ⟨_, hn11, begT_del hp8 pr.1⟩
          obtain ⟨acc, hDa, hpa⟩ := id hf11
          refine ⟨_, rfl, Or.inl ⟨rfl, _, sql hDa⟩, ?_⟩
          refine ⟨_, rfl, pl, _, _, _, rfl, rfl, sqt hpl11, atI_nat (j := 0) rfl, _, rfl, _, _, rfl, rfl, _, rfl, pl, _, _, _, rfl, rfl, sqt hpl11, atI_nat (j := 1) rfl, _, rfl, kt, _, _, _, rfl, rfl, sqt hk11, atI_nat (j := 0) rfl, _, _, rfl, rfl,
            _, rfl, pl, _, _, _, rfl, rfl, sqt hpl11, atI_nat (j := 0) rfl, _, rfl, _, _, rfl, rfl, _, _, rfl, rfl, _, rfl, pl, _, _, _, rfl, rfl, sqt hpl11, atI_nat (j := 1) rfl, _, rfl, kt, _, _, _, rfl, rfl, sqt hk11, atI_nat (j := 1) rfl, _, _, rfl, rfl, _, rfl, kt, _, _, _, rfl, rfl, sqt hk11, atI_nat (j := 2) rfl, (by show 5 ≤ sizeLine; decide), fun t2 ht2 => ?_⟩
          have s12 := same_new (o := .tup [.int (n + pr.2), .int (c + pr.1.1), .int (n + i - 1), .int (c + pr.1.2.1), .str pr.1.2.2]) ht2
          obtain ⟨acc', h1, h2, h3⟩ := lst_snoc (R := QuR) (y := .ref t2) (m := mkT n c i pr) (fun s h => QuR.same s h) qu_del (lst_mono (R := QuR) (fun s h => QuR.same s h) s12 hf11) ⟨t2, rfl, upd_same⟩
          have e9 := s12 _ _ hDa
          rw [e9] at h1
          cases h1
          refine ⟨D, _, _, rfl, rfl, e9, by rw [h2]; exact sz_lt (by omega), _, _, rfl, sm_mut (sB11.trans s12) nDB, ?_, BegT.same del_upd (begT_del' e9 rfl (fun _ z => nomatch z) (hb11.same s12))⟩
          have e3 : ((st.begun.take (j + 1)).filter (fun p => decide (p.1 ∉ rs))).map (mkT n c i) = ((st.begun.take j).filter (fun p => decide (p.1 ∉ rs))).map (mkT n c i) ++ [mkT n c i pr] := by
            rw [take_succ' hpr, List.filter_append, List.map_append]
            simp [hin]
          rw [e3, ← List.append_assoc]
          exact h3
      · rintro σ H10 ⟨ru', tp', rfl, s10, hf10, hb10⟩
        rw [List.take_of_length_le (Nat.le_refl _)] at hf10
        rw [List.take_of_length_le (Nat.le_refl _), List.drop_of_length_le (Nat.le_refl _), List.append_nil] at hb10
        obtain ⟨xq, hqx, pqx⟩ := id hrsB
        refine ⟨_, rfl, rq, rfl, ⟨_, sql (s10 _ _ hqx)⟩, ?_⟩
        refine for_listG0 (H0 := HB) (R := RtR) (sql hqx) pqx (fun j σ H11 => ∃ ru tp, σ = [some (.ref t), some (.ref pl), some (.ref D), some (.ref d), some (.int (i : Nat)), some (.ref ra), some (.ref rq), ru, tp] ∧ Same HB H11 ∧ LstOf QuR H11 D (st.found ++ (st.begun.filter (fun p => decide (p.1 ∉ rs))).map (mkT n c i)) ∧ BegT P w H11 d ((rs.take j).foldl (setdT i) (st.begun.filter (fun p => !decide (p.1 ∉ rs)))))
          ⟨_, _, rfl, s10, hf10, by rw [List.take_zero]; exact hb10⟩ (fun j σ H11 ⟨_, _, _, s7, _⟩ => s7) ?_ ?_
        · rintro j x sg σ H11 hj hsg ⟨kt, rfl, hkt⟩ ⟨ru2, tp2, rfl, s11, hf11, hb11⟩
          obtain ⟨es7, hn7, hp7⟩ := id hb11
          have hk7 := s11 _ _ hkt
          have hlen7 : es7.length < sizeLine := by
            have h1 := Paired.length hp7
            have h2 := setdTs_len i (rs.take j) (st.begun.filter (fun p => !decide (p.1 ∉ rs)))
            have h3 := List.length_filter_le (fun p : RunT × Int => !decide (p.1 ∉ rs)) st.begun
            have h4 : (rs.take j).length ≤ rs.length := List.length_take_le' j _
            exact sz_lt (by omega)
          generalize hbgs : (rs.take j).foldl (setdT i) (st.begun.filter (fun p => !decide (p.1 ∉ rs))) = bgs at hp7 hb11
          have ft : (rs.take (j + 1)).foldl (setdT i) (st.begun.filter (fun p => !decide (p.1 ∉ rs))) = setdT i bgs sg := by rw [foldl_take hsg, hbgs]
          refine ⟨_, rfl, d, es7, rfl, hn7, _, rfl, _, rfl, kt, _, es7, rfl, hk7, tK_flat sg, hn7, hlen7, fun v hv => ?_, fun hv H12 hn12 keep12 back12 => ?_⟩
          · refine ⟨_, _, rfl, s11, hf11, ?_⟩
            rw [ft]
            rw [begT_get hp7] at hv
            have e5 : setdT i bgs sg = bgs := by
              unfold setdT
              rw [if_pos]
              cases e6 : bgs.find? (fun p => decide (p.1 = sg)) with
              | none =>
                rw [e6] at hv
                cases hv
              | some p => exact List.any_eq_true.mpr ⟨p, List.mem_of_find?_eq_some e6, List.find?_some (p := fun p : RunT × Int => decide (p.1 = sg)) e6⟩
            rw [e5]
            exact hb11
          · rw [begT_get hp7] at hv
            obtain ⟨xs7, hd7, _, _⟩ := id hn7
            have s78 : Same (delH' H11 d) H12 := same_del keep12
            refine ⟨_, _, rfl, (del_same s11 ndB).trans s78, lst_mono (R := QuR) (fun s h => QuR.same s h) s78 (qus_deld hd7 hf11), ?_⟩
            rw [ft]
            have e5 : setdT i bgs sg = bgs ++ [(sg, (i : Int))] := by
              unfold setdT
              rw [if_neg]
              intro hany
              obtain ⟨p, hp1, hp2⟩ := List.any_eq_true.mp hany
              cases e6 : bgs.find? (fun p => decide (p.1 = sg)) with
              | none => exact List.find?_eq_none.mp e6 p hp1 hp2
              | some p' =>
                rw [e6] at hv
                cases hv
            rw [e5]
            exact ⟨_, hn12, paired_snoc' hp7 ⟨rfl, rfl⟩⟩
        · rintro σ H11 ⟨ru2, tp2, rfl, s11, hf11, hb11⟩
          rw [List.take_of_length_le (Nat.le_refl _)] at hb11
          refine ⟨some (.int (i : Nat)), some (.ref ra), some (.ref rq), ru2, tp2, rfl, sB.trans s11, ?_, ?_⟩
          · rw [et]
            exact hf11
          · rw [et]
            exact hb11
    · rintro σ H6 ⟨ii, ln, rh, ru, tp, rfl, s6, ⟨vs6, hD6, hp6⟩, hbg⟩
      rw [List.take_of_length_le (Nat.le_refl _)] at hp6
      have sH6 := sH0.trans s6
      refine ⟨_, rfl, (Blk × Str), lawFound tab n c, enc5, QuR H6, D, vs6, rfl, sql hD6, hp6, fun x p hp ⟨a, e1, e2⟩ => ?_, fun p p' => ?_, ?_, fun p _ => ?_, fun ys q hq hys => ?_⟩
      · obtain ⟨m, r, hm, hr'⟩ := hfin p hp
        subst e1
        rw [hm, hr'] at e2
        unfold enc5
        rw [hm, hr']
        exact .tup (sqt e2) (.cons (.int _) (.cons (.int _) (.cons (.int _) (.cons (.int _) (.cons (.str _) .nil)))))
      · simp [enc5, PySem.W.alike, PySem.W.alikeAll]
      · exact PySem.W.Sortable.tuples fun p => ⟨_, _, rfl⟩
      · simp [enc5, PyData.depth, PyData.depthAll]
      · exact k _ q (sH6.trans (same_new hq)) (sH6.free hq) ⟨ys, upd_same, paired_imp (fun _ _ z => QuR.same (same_new hq) z) hys⟩
end
end CB
end
section
set_option maxHeartbeats 4000000
/-! the law's look at cells -/
namespace CB
open PySem PySem.Spec PyProof.Rows L2 CBM
theorem strOk13 (v : Str) (h : v ∈ vals14) : PyData.strOk v = true := List.all_eq_true.mp (show (vals14.all PyData.strOk) = true by decide +kernel) v h
def strsD (l : List Str) : PyData := .list (l.map PyData.str)
theorem strsD_sh {l : List Str} (h : ∀ v ∈ l, PyData.strOk v = true) : SeqAt.shaped (strsD l) = true := sh_list fun s hs => ⟨by simp [PyData.canLay0, h s hs], by simp [PyData.depth]⟩
theorem strs_dpAll {K : PySem.W.Frag} {H : Hp} : ∀ l : List Str, DpAll K H (l.map V.str) (l.map PyData.str)
  | [] => .nil
  | _ :: l => .cons (.str _) (strs_dpAll l)
theorem strsD_dp {K : PySem.W.Frag} {H : Hp} {a : Addr} {l : List Str} (h : H a = some (.lst (l.map V.str))) : Dp K H (.ref a) (strsD l) := .lst (sql h) (strs_dpAll l)
theorem hasB_C (bs : List Blk) (n c : Int) : hasB bs n c = hasC bs n c := rfl
section
variable {P : Program} {w : World} {K : PySem.W.Frag} {mg : Str → Option Value} {base : Heap} {C CA CS : Addr}
abbrev sLCells : Stmt := top 62
abbrev NLCells : List Str := ["_law_sheet", "_law_table_here", "_law_place", "_law_i", "_law_line", "_law_j", "_law_value", "_law_beside", "_law_cell"]
theorem scLCells : FnScope NLCells ["_law_sheet", "_law_table_here", "_law_place"] (defScope sLCells) := ⟨rfl, rfl, rfl, by decide +kernel, rfl, by decide +kernel, by decide +kernel⟩
def spLCells (C CA CS : Addr) : Sp := fun vs H Q _ => ∃ (v : V) (t pl : Addr) (h : Held) (tab : List (List Str)) (row0 : List Str) (n c : Int), vs = [v, .ref t, .ref pl] ∧ SheetAt C CA CS H v h ∧ TabAt H t tab ∧ H pl = some (.tup [.int n, .int c]) ∧ 1 ≤ n ∧ 1 ≤ c ∧ tab[0]? = some row0 ∧ h.length ≤ 60 ∧ (∀ p ∈ h, p.2.length ≤ 600) ∧
  (∀ (i j : Nat) (row : List Str) (x : Str), tab[i]? = some row → row[j]? = some x → ∃ r, valsAt h (n + i) (c + j) = x :: r) ∧ (∃ r, valsAt h (n + tab.length) c = PySem.Str.ofString "" :: r) ∧ (∃ r, valsAt h n (c + row0.length) = PySem.Str.ofString "" :: r) ∧ ∀ H', Same H H' → Q (.bl true) H'
theorem ok_lcells {f : Addr} {fd : FuncData} (F : FnD K "_law_cells_right" "_law_cells_right" sLCells [] f fd) (g : mg "_law_cells_right" = some (.ref f)) (B : Bi mg) (cV : C8.Met P w K mg base 7 CS "value" (spValue C CA CS) []) : C8.Cal P w K mg base 8 "_law_cells_right" (spLCells C CA CS) [] := by
  refine calD F g (F.bindsN fun _ _ _ _ _ _ us hl => match us, hl with | [_, _, _], _ => rfl) .nil scLCells (fun vs H Q E h => ?_) (fun cdv A outer s H vs Q E hr h => ?_)
  · obtain ⟨v, t, pl, h, tab, row0, n, c, rfl, _⟩ := h
    rfl
  · obtain ⟨v, t, pl, h, tab, row0, n, c, rfl, hS, ⟨xs, ht, hp⟩, hpl, hn, hc, h0, zh, zf, hcell, hb1, hb2, k⟩ := h
    obtain ⟨a, dx, d, rfl, ha, hd⟩ := id hS
    refine ⟨_, pss_cons (ps_for PassesOwn.never rfl (pi_enum rfl B.enumerate (pa_cons (pv 1) pa_nil)) (pg_tup rfl (pgs_cons (pg_name (i := 3) scLCells.nd rfl (.inl rfl)) (pgs_cons (pg_name (i := 4) scLCells.nd rfl (.inl rfl)) pgs_nil)))
        (pss_one (ps_for PassesOwn.never rfl (pi_enum rfl B.enumerate (pa_cons (pv 4) pa_nil)) (pg_tup rfl (pgs_cons (pg_name (i := 5) scLCells.nd rfl (.inl rfl)) (pgs_cons (pg_name (i := 6) scLCells.nd rfl (.inl rfl)) pgs_nil)))
          (pss_one (ps_if (pt_cmpR op_ne (C8.pe_mt cV hr (by decide) (pv 0) (pa_cons (pe_tup (pa_cons (pe_op op_add (pe_ix ix_tup (pv 2) pe_int (fun _ _ => rfl)) (pv 3)) (pa_cons (pe_op op_add (pe_ix ix_tup (pv 2) pe_int (fun _ _ => rfl)) (pv 5)) pa_nil))) pa_nil)) (pv 6) (nomark _))
            (pss_one (ps_ret pe_bl)) pss_nil)))))
      (pss_cons (ps_set (i := 7) scLCells.nd rfl (Or.inl rfl) (pe_lst (pa_cons (pe_tup (pa_cons (pe_op op_add (pe_ix ix_tup (pv 2) pe_int (fun _ _ => rfl)) (pe_callB call_len rfl B.len PySem.boot_len (pa_cons (pv 1) pa_nil))) (pa_cons (pe_ix ix_tup (pv 2) pe_int (fun _ _ => rfl)) pa_nil)))
        (pa_cons (pe_tup (pa_cons (pe_ix ix_tup (pv 2) pe_int (fun _ _ => rfl)) (pa_cons (pe_op op_add (pe_ix ix_tup (pv 2) pe_int (fun _ _ => rfl)) (pe_callB call_len rfl B.len PySem.boot_len (pa_cons (pe_ix ix_list (pv 1) pe_int (fun _ _ => rfl)) pa_nil))) pa_nil))) pa_nil))))
      (pss_one (ps_ret (pe_cmpR (op_eqD hr.units) (pe_lc (own := [("_law_cell", 8)]) (g := gName 8) (tt := tYes) rfl scLCells.nd (pi_list (pv 7)) (blkOk_by (N := NLCells) (sc := defScope sLCells) (by decide +kernel))
        (fun _ _ _ _ _ => pg_name (i := 8) scLCells.nd rfl (Or.inl rfl)) (fun _ _ _ _ _ => pts_nil) (fun _ _ _ _ _ => C8.pe_mt cV hr (by decide) (pv 0) (pa_cons (pv 8) pa_nil))) (pe_lst (pa_cons pe_str (pa_cons pe_str pa_nil))) (nomark _))))), ?_⟩
    refine ⟨_, rfl, t, xs, rfl, sql ht, ?_⟩
    refine for_enumG0 (H0 := H) (R := RowR) (sql ht) hp (fun i σ H2 => ∃ ii ln jj vv, σ = [some (.ref a), some (.ref t), some (.ref pl), ii, ln, jj, vv, none, none] ∧ Same H H2)
      ⟨_, _, _, _, rfl, Same.refl _⟩ (fun i σ H2 ⟨_, _, _, _, _, s2⟩ => s2) ?_ ?_
    · rintro i x row T σ H2 hi hrow ⟨ra, rfl, hra⟩ ⟨ii, ln, jj, vv, rfl, s2⟩ hT
      have s3 : Same H2 (upd H2 T (.tup [.int (i : Nat), .ref ra])) := same_new hT
      refine ⟨T, _, rfl, sqt upd_same, rfl, _, _, rfl, _, _, rfl, rfl, ?_⟩
      have s03 := s2.trans s3
      show (tFor _ _ _) _ _ (upd H2 T (.tup [.int (i : Nat), .ref ra]))
      generalize upd H2 T (.tup [.int (i : Nat), .ref ra]) = H3 at s3 s03
      refine ⟨_, rfl, ra, row.map V.str, rfl, sql (s03 _ _ hra), ?_⟩
      refine for_enumG0 (H0 := H) (R := StrV) (sql hra) (strV_all row) (fun j σ H4 => ∃ jj vv, σ = [some (.ref a), some (.ref t), some (.ref pl), some (.int (i : Nat)), some (.ref ra), jj, vv, none, none] ∧ Same H H4)
        ⟨_, _, rfl, s03⟩ (fun j σ H4 ⟨_, _, _, s4⟩ => s4) ?_ ?_
      · rintro j x y T2 σ H4 hj hy rfl ⟨jj2, vv2, rfl, s4⟩ hT2
        have s5 : Same H4 (upd H4 T2 (.tup [.int (j : Nat), .str y])) := same_new hT2
        refine ⟨T2, _, rfl, sqt upd_same, rfl, _, _, rfl, _, _, rfl, rfl, ?_⟩
        have s05 := s4.trans s5
        show (tIfS _ _ _) _ _ (upd H4 T2 (.tup [.int (j : Nat), .str y]))
        generalize upd H4 T2 (.tup [.int (j : Nat), .str y]) = H5 at s5 s05
        have hpl5 := s05 _ _ hpl
        obtain ⟨r, hval⟩ := hcell i j row y hrow hy
        refine ⟨_, rfl, a, dx, _, rfl, s05 _ _ ha, h_no (by decide +kernel), ?_⟩
        refine ⟨_, rfl, pl, _, _, _, rfl, rfl, sqt hpl5, atI_nat (j := 0) rfl, _, rfl, _, _, rfl, rfl, _, rfl, pl, _, _, _, rfl, rfl, sqt hpl5, atI_nat (j := 1) rfl, _, rfl, _, _, rfl, rfl, (by show 2 ≤ sizeLine; decide), fun q hq => ?_⟩
        have s6 := same_new (o := .tup [.int (n + i), .int (c + j)]) hq
        refine ⟨_, .ref q, h, n + i, c + j, y, r, rfl, hS.same (s05.trans s6), ⟨q, rfl, upd_same, by omega, by omega⟩, zh, zf, hval, fun H7 s7 => ?_⟩
        refine ⟨_, rfl, rfl, false, ?_, iteF ⟨_, _, rfl, (s05.trans s6).trans s7⟩⟩
        show V.bl (!decide (V.str y = V.str y)) = .bl false
        rw [decide_eq_true rfl]
        rfl
      · rintro σ H4 ⟨jj2, vv2, rfl, s4⟩
        exact ⟨_, _, _, _, rfl, s4⟩
    · rintro σ H2 ⟨ii, ln, jj, vv, rfl, s2⟩
      have hpl2 := s2 _ _ hpl
      have ht2 := s2 _ _ ht
      obtain ⟨vr, hvr, hrr⟩ : ∃ vr, xs[0]? = some vr ∧ RowR H vr row0 := by
        have l1 := Paired.length hp
        have l2 := (List.getElem?_eq_some_iff.mp h0).1
        have hx : xs[0]? = some xs[0] := List.getElem?_eq_getElem (by omega)
        obtain ⟨m, hm, r⟩ := paired_getI hp hx
        rw [h0] at hm
        cases hm
        exact ⟨_, hx, r⟩
      obtain ⟨ra0, rfl, hra0⟩ := hrr
      refine ⟨_, rfl, pl, _, _, _, rfl, rfl, sqt hpl2, atI_nat (j := 0) rfl, _, rfl, _, xs.length, rfl, Or.inl ⟨_, sql ht2, rfl⟩, _, _, rfl, rfl, _, rfl, pl, _, _, _, rfl, rfl, sqt hpl2, atI_nat (j := 1) rfl, (by show 2 ≤ sizeLine; decide), fun q1 hq1 => ?_⟩
      have s3 := same_new (o := .tup [.int (n + xs.length), .int c]) hq1
      have hpl3 := s3 _ _ hpl2
      refine ⟨_, rfl, pl, _, _, _, rfl, rfl, sqt hpl3, atI_nat (j := 0) rfl, _, rfl, pl, _, _, _, rfl, rfl, sqt hpl3, atI_nat (j := 1) rfl, _, rfl, t, _, _, .ref ra0, rfl, rfl, sql (s3 _ _ ht2), atI_nat (j := 0) hvr, _, row0.length, rfl, Or.inl ⟨_, sql (s3 _ _ (s2 _ _ hra0)), by rw [List.length_map]⟩, _, _, rfl, rfl, (by show 2 ≤ sizeLine; decide), fun q2 hq2 => ⟨(by show 2 ≤ sizeLine; decide), fun q3 hq3 => ?_⟩⟩
      have s4 := same_new (o := .tup [.int n, .int (c + row0.length)]) hq2
      have s5 := same_new (o := .lst [.ref q1, .ref q2]) hq3
      have hq1' := s5 _ _ (s4 _ _ (upd_same (H := H2) (a := q1) (o := .tup [.int (n + xs.length), .int c])))
      have hq2' := s5 _ _ (upd_same (H := upd H2 q1 (.tup [.int (n + xs.length), .int c])) (a := q2) (o := .tup [.int n, .int (c + row0.length)]))
      have hq3' : (upd (upd (upd H2 q1 (.tup [.int (n + xs.length), .int c])) q2 (.tup [.int n, .int (c + row0.length)])) q3 (.lst [.ref q1, .ref q2])) q3 = some (.lst [.ref q1, .ref q2]) := upd_same
      have s25 := s2.trans (s3.trans (s4.trans s5))
      generalize upd (upd (upd H2 q1 (.tup [.int (n + xs.length), .int c])) q2 (.tup [.int n, .int (c + row0.length)])) q3 (.lst [.ref q1, .ref q2]) = H5 at hq1' hq2' hq3' s25
      have hcl : Paired (fun v (p : Int × Int) => CellAt H5 v p.1 p.2) [V.ref q1, V.ref q2] [(n + (tab.length : Int), c), (n, c + (row0.length : Int))] := by
        have l1 := Paired.length hp
        rw [l1] at hq1'
        exact .cons ⟨q1, rfl, hq1', by omega, hc⟩ (.cons ⟨q2, rfl, hq2', hn, by omega⟩ .nil)
      refine ⟨_, rfl, q3, rfl, ⟨_, sql hq3'⟩, fun D hD => lc_gen (R := fun H v (p : Int × Int) => CellAt H v p.1 p.2) (R' := StrV) (keep := fun _ => true) (f := fun _ => PySem.Str.ofString "") hD (sql hq3') hcl (by show 2 ≤ 90000; decide) (fun s h => CellAt.same s h) (fun _ h => h) (fun _ h => h) ?_ ?_⟩
      · rintro y p H6 hpm hy s6 QT QF g1 g2
        have hval : ∃ r, valsAt h p.1 p.2 = PySem.Str.ofString "" :: r := by
          rcases List.mem_cons.mp hpm with rfl | hpm
          · exact hb1
          · rw [List.mem_singleton.mp hpm]
            exact hb2
        obtain ⟨r, hval⟩ := hval
        exact ⟨rfl, iteT (B := QF H6) ⟨_, rfl, a, dx, _, rfl, (s25.trans s6) _ _ ha, h_no (by decide +kernel), _, rfl, _, y, h, p.1, p.2, PySem.Str.ofString "", r, rfl, hS.same (s25.trans s6), hy, zh, zf, hval, fun H7 s7 => g1 rfl _ H7 s7 rfl⟩⟩
      · intro H6 s6 hL
        rw [filtT] at hL
        have hD6 := lst_strs hL
        refine ⟨(by show 2 ≤ sizeLine; decide), fun q4 hq4 => ?_⟩
        have s7 := same_new (o := .lst [.str (PySem.Str.ofString ""), .str (PySem.Str.ofString "")]) hq4
        refine ⟨strsD [PySem.Str.ofString "", PySem.Str.ofString ""], strsD [PySem.Str.ofString "", PySem.Str.ofString ""], strsD_dp (s7 _ _ hD6), strsD_dp upd_same, strsD_sh ?_, strsD_sh ?_, ?_⟩
        · intro v hv
          simp at hv
          rw [hv]
          exact strOk13 _ (by decide +kernel)
        · intro v hv
          simp at hv
          rw [hv]
          exact strOk13 _ (by decide +kernel)
        · show Q (.bl (PyData.eqv _ _)) _
          rw [eqv_same (strsD_sh (l := [PySem.Str.ofString "", PySem.Str.ofString ""]) (by
            intro v hv
            simp at hv
            rw [hv]
            exact strOk13 _ (by decide +kernel)))]
          exact k _ ((s25.trans s6).trans s7)
end
end CB
end
section
set_option maxHeartbeats 4000000
/-! the law's look at what is unlike -/
namespace CB
open PySem PySem.Spec PyProof.Rows L2 CBM
def U3R (H : Hp) (v : V) (u : U3) : Prop := ∃ a b, v = .ref a ∧ H a = some (.tup [.ref b, .str u.2.1, .str u.2.2]) ∧ H b = some (.tup [.int u.1.1, .int u.1.2])
theorem U3R.same {H H' : Hp} {v : V} {u : U3} (e : Same H H') (h : U3R H v u) : U3R H' v u := let ⟨a, b, h1, h2, h3⟩ := h; ⟨a, b, h1, e _ _ h2, e _ _ h3⟩
theorem u3_del {H : Hp} {D : Addr} {acc : List V} {v : V} {u : U3} (hD : H D = some (.lst acc)) (h : U3R H v u) : U3R (delH' H D) v u := let ⟨a, b, h1, h2, h3⟩ := h; ⟨a, b, h1, by rw [del_ne (ne_of h2 hD fun z => nomatch z)]; exact h2, by rw [del_ne (ne_of h3 hD fun z => nomatch z)]; exact h3⟩
def encU (u : U3) : PyData := .tuple [.tuple [.int u.1.1, .int u.1.2], .str u.2.1, .str u.2.2]
theorem encU_dp {K : PySem.W.Frag} {H : Hp} {v : V} {u : U3} (h : U3R H v u) : Dp K H v (encU u) := by
  obtain ⟨a, b, rfl, ha, hb⟩ := h
  exact .tup (sqt ha) (.cons (.tup (sqt hb) (.cons (.int _) (.cons (.int _) .nil))) (.cons (.str _) (.cons (.str _) .nil)))
theorem encU_sh {l : List U3} (h : ∀ u ∈ l, PyData.strOk u.2.1 = true ∧ PyData.strOk u.2.2 = true) : SeqAt.shaped (.list (l.map encU)) = true := sh_list fun u hu => ⟨by simp [encU, PyData.canLay0, PyData.canLayAll0, h u hu], by simp [encU, PyData.depth, PyData.depthAll]⟩
def sortU3 (l : List U3) : List U3 := l.mergeSort (PySem.W.dataLe false encU)
theorem fm_pre {α β : Type} {f : α → List β} (l : List α) (i : Nat) : ((l.take i).flatMap f).length ≤ (l.flatMap f).length := by
  have h : l.flatMap f = (l.take i).flatMap f ++ (l.drop i).flatMap f := by
    rw [← List.flatMap_append, List.take_append_drop]
  rw [h, List.length_append]
  omega
section
variable {P : Program} {w : World} {K : PySem.W.Frag} {mg : Str → Option Value} {base : Heap} {C CA CS : Addr}
abbrev sLUnl : Stmt := top 63
abbrev NLUnl : List Str := ["_law_sheet", "_law_other", "_law_table_here", "_law_second", "_law_place", "_law_due", "_law_i", "_law_line", "_law_j", "_law_value", "_law_found", "_law_block", "_law_one", "_law_two", "_law_row", "_law_area_here", "_law_column", "_law_part"]
theorem scLUnl : FnScope NLUnl ["_law_sheet", "_law_other", "_law_table_here", "_law_second", "_law_place"] (defScope sLUnl) := ⟨rfl, rfl, rfl, by decide +kernel, rfl, by decide +kernel, by decide +kernel⟩
/-- what must be true of the two sheets -/
structure UnlOk (rs cs : List Int) (h1 h2 : Held) (tab sec : List (List Str)) (n c : Int) : Prop where
  ok1 : HeldOk rs cs h1
  ok2 : HeldOk rs cs h2
  len : tab.length = sec.length
  lens : ∀ (i : Nat) (r s : List Str), tab[i]? = some r → sec[i]? = some s → r.length = s.length
  zt : tab.length ≤ 14
  zr : ∀ row ∈ tab, row.length ≤ 14
  txts : ∀ u ∈ dueL n c tab sec, PyData.strOk u.2.1 = true ∧ PyData.strOk u.2.2 = true
  fine : Fine rs cs ((unlikeH h1 h2).map (·.1))
  fin : ∀ p ∈ unlikeH h1 h2, ∃ m q, p.1.b = some m ∧ p.1.r = some q ∧ 0 ≤ p.1.t ∧ m < 2 ^ 61 ∧ 0 ≤ p.1.l ∧ q < 2 ^ 61 ∧ p.1.t ≤ m ∧ p.1.l ≤ q
  few : (cellsU (unlikeH h1 h2)).length ≤ 5000
  same : sortU3 (cellsU (unlikeH h1 h2)) = sortU3 (dueL n c tab sec)
  small : ∀ b ∈ areaOf ((unlikeH h1 h2).map (·.1)), Small b
  size : ((areaOf ((unlikeH h1 h2).map (·.1))).map fun b => (sizeB b).getD 0).sum = (dueL n c tab sec).length
  has : ∀ u ∈ dueL n c tab sec, hasC (areaOf ((unlikeH h1 h2).map (·.1))) u.1.1 u.1.2 = true
def spLUnl (C CA CS : Addr) : Sp := fun vs H Q _ => ∃ (v u : V) (t t2 pl : Addr) (h1 h2 : Held) (tab sec : List (List Str)) (n c : Int) (rs cs : List Int), vs = [v, u, .ref t, .ref t2, .ref pl] ∧ SheetAt C CA CS H v h1 ∧ SheetAt C CA CS H u h2 ∧ TabAt H t tab ∧ TabAt H t2 sec ∧ H pl = some (.tup [.int n, .int c]) ∧ 1 ≤ n ∧ 1 ≤ c ∧ UnlOk rs cs h1 h2 tab sec n c ∧ ∀ H', Same H H' → Q (.bl true) H'
theorem ok_lunl {f : Addr} {fd : FuncData} (F : FnD K "_law_unlike_right" "_law_unlike_right" sLUnl [] f fd) (g : mg "_law_unlike_right" = some (.ref f)) (B : Bi mg) (T : BK K mg C) (cU : C8.Cal P w K mg base 11 "unlike" (spUnl C CA CS) []) (cUA : C8.Cal P w K mg base 12 "unlike_area" (spUnlA C CA CS) []) (cS : C8.Met P w K mg base 2 CA "size" (spASize C CA) []) (cH : C8.Met P w K mg base 6 CA "has" (spAHas C CA) []) : C8.Cal P w K mg base 13 "_law_unlike_right" (spLUnl C CA CS) [] := by
  refine calD F g (F.bindsN fun _ _ _ _ _ _ us hl => match us, hl with | [_, _, _, _, _], _ => rfl) .nil scLUnl (fun vs H Q E h => ?_) (fun cdv A outer s H vs Q E hr h => ?_)
  · obtain ⟨v, u, t, t2, pl, h1, h2, tab, sec, n, c, rs, cs, rfl, _⟩ := h
    rfl
  · obtain ⟨v, u, t, t2, pl, h1, h2, tab, sec, n, c, rs, cs, rfl, hS1, hS2, ⟨xs, ht, hp⟩, ⟨xs2, ht2, hp2⟩, hpl, hn, hc, U, k⟩ := h
    refine ⟨_, pss_cons (ps_set (i := 5) scLUnl.nd rfl (Or.inl rfl) (pe_lst pa_nil))
      (pss_cons (ps_for PassesOwn.never rfl (pi_enum rfl B.enumerate (pa_cons (pv 2) pa_nil)) (pg_tup rfl (pgs_cons (pg_name (i := 6) scLUnl.nd rfl (.inl rfl)) (pgs_cons (pg_name (i := 7) scLUnl.nd rfl (.inl rfl)) pgs_nil)))
        (pss_one (ps_for PassesOwn.never rfl (pi_enum rfl B.enumerate (pa_cons (pv 7) pa_nil)) (pg_tup rfl (pgs_cons (pg_name (i := 8) scLUnl.nd rfl (.inl rfl)) (pgs_cons (pg_name (i := 9) scLUnl.nd rfl (.inl rfl)) pgs_nil)))
          (pss_one (ps_if (pt_cmpR op_ne (pe_ix ix_list (pe_ix ix_list (pv 3) (pv 6) (fun _ _ => rfl)) (pv 8) (fun _ _ => rfl)) (pv 9) (nomark _))
            (pss_one (ps_expr (pe_bm PySem.F.plainAttrs_list PySem.F.slot_list_append PySem.F.type_list_append mt_append (pv 5) (pa_cons (pe_tup (pa_cons (pe_tup (pa_cons (pe_op op_add (pe_ix ix_tup (pv 4) pe_int (fun _ _ => rfl)) (pv 6)) (pa_cons (pe_op op_add (pe_ix ix_tup (pv 4) pe_int (fun _ _ => rfl)) (pv 8)) pa_nil)))
              (pa_cons (pv 9) (pa_cons (pe_ix ix_list (pe_ix ix_list (pv 3) (pv 6) (fun _ _ => rfl)) (pv 8) (fun _ _ => rfl)) pa_nil)))) pa_nil)))) pss_nil)))))
      (pss_cons (ps_set (i := 10) scLUnl.nd rfl (Or.inl rfl) (pe_lst pa_nil))
      (pss_cons (ps_for PassesOwn.never rfl (pi_list (C8.pe_c cU hr (by decide) rfl (pa_cons (pv 0) (pa_cons (pv 1) pa_nil)))) (pg_tup rfl (pgs_cons (pg_name (i := 11) scLUnl.nd rfl (.inl rfl)) (pgs_cons (pg_name (i := 12) scLUnl.nd rfl (.inr rfl)) (pgs_cons (pg_name (i := 13) scLUnl.nd rfl (.inr rfl)) pgs_nil))))
        (pss_one (ps_for PassesOwn.never rfl (pi_range2 rfl B.range (pa_cons (pe_fld (pv 11) rfl) (pa_cons (pe_op op_add (pe_fld (pv 11) rfl) pe_int) pa_nil))) (pg_name (i := 14) scLUnl.nd rfl (.inr rfl))
          (pss_one (ps_set (i := 10) scLUnl.nd rfl (Or.inl rfl) (pe_op op_cat (pv 10) (pe_lc (own := [("_law_column", 16)]) (g := gName 16) (tt := tYes) rfl scLUnl.nd (pi_range2 rfl B.range (pa_cons (pe_fld (pv 11) rfl) (pa_cons (pe_op op_add (pe_fld (pv 11) rfl) pe_int) pa_nil))) (blkOk_by (N := NLUnl) (sc := defScope sLUnl) (by decide +kernel))
            (fun _ _ _ _ _ => pg_name (i := 16) scLUnl.nd rfl (Or.inl rfl)) (fun _ _ _ _ _ => pts_nil) (fun _ _ _ _ _ => pe_tup (pa_cons (pe_tup (pa_cons (pv 14) (pa_cons (pv 16) pa_nil))) (pa_cons (pv 12) (pa_cons (pv 13) pa_nil)))))))))))
      (pss_cons (ps_set (i := 15) scLUnl.nd rfl (Or.inr rfl) (C8.pe_c cUA hr (by decide) rfl (pa_cons (pv 0) (pa_cons (pv 1) pa_nil))))
      (pss_cons (ps_if (PW.pt (pw_or (pt_cmpR (op_neD hr.units) (pe_callB (call_sortedL hr) rfl B.sorted (by decide +kernel) (pa_cons (pv 10) pa_nil)) (pe_callB (call_sortedL hr) rfl B.sorted (by decide +kernel) (pa_cons (pv 5) pa_nil)) (nomark _))
          (pw_or1 (pt_cmpR op_ne (C8.pe_mt0 cS hr (by decide) (pv 15)) (pe_callB call_len rfl B.len PySem.boot_len (pa_cons (pv 5) pa_nil)) (nomark _))))) (pss_one (ps_ret pe_bl)) pss_nil)
      (pss_one (ps_ret (pe_cmpR op_notIn_seq pe_bl (pe_lc (own := [("_law_part", 17)]) (g := gName 17) (tt := tYes) rfl scLUnl.nd (pi_list (pv 5)) (blkOk_by (N := NLUnl) (sc := defScope sLUnl) (by decide +kernel))
        (fun _ _ _ _ _ => pg_name (i := 17) scLUnl.nd rfl (Or.inl rfl)) (fun _ _ _ _ _ => pts_nil) (fun _ _ _ _ _ => C8.pe_mt cH hr (by decide) (pv 15) (pa_cons (pe_ix (ixT K) (pv 17) pe_int (fun _ _ => rfl)) pa_nil))) (by rfl))))))))), ?_⟩
    refine ⟨Nat.zero_le _, fun D hD => ?_⟩
    have s0 : Same H (upd H D (.lst [])) := same_new hD
    have hD1 : (upd H D (.lst [])) D = some (.lst ([] : List V)) := upd_same
    generalize upd H D (.lst []) = H1 at s0 hD1
    refine ⟨_, rfl, t, xs, rfl, sql (s0 _ _ ht), ?_⟩
    have nexts : tab.length = sec.length := U.len
    refine for_enumG0 (H0 := H) (R := RowR) (sql ht) hp (fun i σ H2 => ∃ ii ln jj vv, σ = [some v, some u, some (.ref t), some (.ref t2), some (.ref pl), some (.ref D), ii, ln, jj, vv, none, none, none, none, none, none, none, none] ∧ Same H H2 ∧ LstOf U3R H2 D (dueL n c (tab.take i) (sec.take i)))
      ⟨_, _, _, _, rfl, s0, by rw [List.take_zero, List.take_zero]; exact ⟨[], hD1, .nil⟩⟩ (fun i σ H2 ⟨_, _, _, _, _, s2, _⟩ => s2) ?_ ?_
    · rintro i x row T σ H2 hi hrow ⟨ra, rfl, hra⟩ ⟨ii, ln, jj, vv, rfl, s2, hb⟩ hT
      have s3 : Same H2 (upd H2 T (.tup [.int (i : Nat), .ref ra])) := same_new hT
      refine ⟨T, _, rfl, sqt upd_same, rfl, _, _, rfl, _, _, rfl, rfl, ?_⟩
      have s03 := s2.trans s3
      have hb3 := lst_mono (R := U3R) (fun s h => U3R.same s h) s3 hb
      show (tFor _ _ _) _ _ (upd H2 T (.tup [.int (i : Nat), .ref ra]))
      generalize upd H2 T (.tup [.int (i : Nat), .ref ra]) = H3 at s3 s03 hb3
      have hi2 : i < sec.length := by omega
      have hsec : sec[i]? = some sec[i] := List.getElem?_eq_getElem hi2
      generalize sec[i] = srow at hsec
      have hlen := U.lens i row srow hrow hsec
      have zrow := U.zr row (List.mem_of_getElem? hrow)
      obtain ⟨vs2, hvs2, ra2, rfl, hra2⟩ : ∃ vs2, xs2[i]? = some vs2 ∧ RowR H vs2 srow := by
        have l1 := Paired.length hp2
        have hx : xs2[i]? = some xs2[i] := List.getElem?_eq_getElem (by omega)
        obtain ⟨m, hm, r⟩ := paired_getI hp2 hx
        rw [hsec] at hm
        cases hm
        exact ⟨_, hx, r⟩
      have et : dueL n c (tab.take (i + 1)) (sec.take (i + 1)) = dueL n c (tab.take i) (sec.take i) ++ dueRow (n + i) c row srow := by
        rw [take_succ' hrow, take_succ' hsec, dueL_snoc (by rw [List.length_take, List.length_take, nexts]), List.length_take, Nat.min_eq_left (Nat.le_of_lt hi)]
      have lt : (dueL n c (tab.take i) (sec.take i)).length ≤ 196 := by
        have q1 := dueL_len (k := 14) (l := tab.take i) (m := sec.take i) (n := n) (c := c) fun r hr => U.zr r (List.mem_of_mem_take hr)
        have q2 : (tab.take i).length ≤ 14 := Nat.le_trans (List.length_take_le' i tab) U.zt
        have : (tab.take i).length * 14 ≤ 14 * 14 := Nat.mul_le_mul q2 (Nat.le_refl _)
        omega
      generalize dueL n c (tab.take i) (sec.take i) = done at hb3 et lt
      refine ⟨_, rfl, ra, row.map V.str, rfl, sql (s03 _ _ hra), ?_⟩
      refine for_enumG0 (H0 := H) (R := StrV) (sql hra) (strV_all row) (fun j σ H4 => ∃ jj vv, σ = [some v, some u, some (.ref t), some (.ref t2), some (.ref pl), some (.ref D), some (.int (i : Nat)), some (.ref ra), jj, vv, none, none, none, none, none, none, none, none] ∧ Same H H4 ∧ LstOf U3R H4 D (done ++ dueRow (n + i) c (row.take j) (srow.take j)))
        ⟨_, _, rfl, s03, by rw [List.take_zero, List.take_zero]; simpa [dueRow] using hb3⟩ (fun j σ H4 ⟨_, _, _, s4, _⟩ => s4) ?_ ?_
      · rintro j x y T2 σ H4 hj hy rfl ⟨jj2, vv2, rfl, s4, hb4⟩ hT2
        have s5 : Same H4 (upd H4 T2 (.tup [.int (j : Nat), .str y])) := same_new hT2
        refine ⟨T2, _, rfl, sqt upd_same, rfl, _, _, rfl, _, _, rfl, rfl, ?_⟩
        have s05 := s4.trans s5
        have hb5 := lst_mono (R := U3R) (fun s h => U3R.same s h) s5 hb4
        show (tIfS _ _ _) _ _ (upd H4 T2 (.tup [.int (j : Nat), .str y]))
        generalize upd H4 T2 (.tup [.int (j : Nat), .str y]) = H5 at s5 s05 hb5
        have hj2 : j < srow.length := by omega
        have hsy : srow[j]? = some srow[j] := List.getElem?_eq_getElem hj2
        generalize srow[j] = y2 at hsy
        have et2 : dueRow (n + i) c (row.take (j + 1)) (srow.take (j + 1)) = dueRow (n + i) c (row.take j) (srow.take j) ++ (if y2 ≠ y then [((n + i, c + j), y, y2)] else []) := by
          rw [take_succ' hy, take_succ' hsy, dueRow_snoc (by rw [List.length_take, List.length_take, hlen]), List.length_take, Nat.min_eq_left (Nat.le_of_lt hj)]
        have lr : (dueRow (n + i) c (row.take j) (srow.take j)).length ≤ 14 := by
          have q1 := dueRow_len (row.take j) (srow.take j) (n + i) c
          have q2 := List.length_take_le' j row
          omega
        generalize dueRow (n + i) c (row.take j) (srow.take j) = done2 at hb5 et2 lr
        have hpl5 := s05 _ _ hpl
        have ht25 := s05 _ _ ht2
        have hra25 := s05 _ _ hra2
        refine ⟨_, rfl, _, rfl, t2, _, _, .ref ra2, rfl, rfl, sql ht25, atI_nat hvs2, _, rfl, ra2, _, _, .str y2, rfl, rfl, sql hra25, atI_nat (by rw [List.getElem?_map, hsy]; rfl), _, rfl, rfl, _, rfl, ?_⟩
        have e1 : (!decide (V.str y2 = V.str y)) = !decide (y2 = y) := by by_cases e : y2 = y <;> simp [e]
        show if (!decide (V.str y2 = V.str y)) = true then _ else _
        rw [e1]
        by_cases e : y2 = y
        · rw [if_neg (fun z => z e), List.append_nil] at et2
          rw [decide_eq_true e]
          refine iteF ⟨_, _, rfl, s05, ?_⟩
          rw [et2]
          exact hb5
        · rw [if_pos e] at et2
          rw [decide_eq_false e]
          refine iteT ?_
          obtain ⟨acc, hDa, hpa⟩ := id hb5
          refine ⟨_, rfl, Or.inl ⟨rfl, _, sql hDa⟩, ?_⟩
          refine ⟨_, rfl, pl, _, _, _, rfl, rfl, sqt hpl5, atI_nat (j := 0) rfl, _, rfl, _, _, rfl, rfl, _, rfl, pl, _, _, _, rfl, rfl, sqt hpl5, atI_nat (j := 1) rfl, _, rfl, _, _, rfl, rfl, (by show 2 ≤ sizeLine; decide), fun q1 hq1 => ?_⟩
          have s6 := same_new (o := .tup [.int (n + i), .int (c + j)]) hq1
          refine ⟨_, rfl, _, rfl, _, rfl, t2, _, _, .ref ra2, rfl, rfl, sql (s6 _ _ ht25), atI_nat hvs2, _, rfl, ra2, _, _, .str y2, rfl, rfl, sql (s6 _ _ hra25), atI_nat (by rw [List.getElem?_map, hsy]; rfl), (by show 3 ≤ sizeLine; decide), fun q2 hq2 => ?_⟩
          have s7 := same_new (o := .tup [.ref q1, .str y, .str y2]) hq2
          have e9 := s7 _ _ (s6 _ _ hDa)
          obtain ⟨acc', z1, z2, z3⟩ := lst_snoc (R := U3R) (y := .ref q2) (m := (((n + i, c + j), y, y2) : U3)) (fun s h => U3R.same s h) u3_del (lst_mono (R := U3R) (fun s h => U3R.same s h) (s6.trans s7) hb5) ⟨q2, q1, rfl, upd_same, s7 _ _ upd_same⟩
          rw [e9] at z1
          cases z1
          rw [List.length_append] at z2
          refine ⟨D, _, _, rfl, rfl, e9, sz_lt (by omega), _, _, rfl, sm_mut (s05.trans (s6.trans s7)) hD, ?_⟩
          rw [et2, ← List.append_assoc]
          exact z3
      · rintro σ H4 ⟨jj2, vv2, rfl, s4, hb4⟩
        rw [List.take_of_length_le (Nat.le_refl _), List.take_of_length_le (by omega), ← et] at hb4
        exact ⟨_, _, _, _, rfl, s4, hb4⟩
    · rintro σ H2 ⟨ii, ln, jj, vv, rfl, s2, hb⟩
      rw [List.take_of_length_le (Nat.le_refl _), List.take_of_length_le (by omega)] at hb
      have ldue : (dueL n c tab sec).length ≤ 196 := by
        have q1 := dueL_len (k := 14) (l := tab) (m := sec) (n := n) (c := c) U.zr
        have : tab.length * 14 ≤ 14 * 14 := Nat.mul_le_mul U.zt (Nat.le_refl _)
        omega
      -- found = []
      refine ⟨Nat.zero_le _, fun F0 hF0 => ?_⟩
      have s3 : Same H2 (upd H2 F0 (.lst [])) := same_new hF0
      have hF1 : (upd H2 F0 (.lst [])) F0 = some (.lst ([] : List V)) := upd_same
      have hb3 := lst_mono (R := U3R) (fun s h => U3R.same s h) s3 hb
      have s03 := s2.trans s3
      show (tSeq _ _) _ _ (upd H2 F0 (.lst []))
      generalize upd H2 F0 (.lst []) = H3 at s3 hF1 hb3 s03
      refine ⟨_, rfl, _, rfl, v, u, h1, h2, rs, cs, rfl, hS1.same s03, hS2.same s03, U.ok1, U.ok2, fun H4 p4 s4 hp4 ⟨ys, hy4, hpy⟩ => ⟨p4, rfl, ⟨_, sql hy4⟩, ?_⟩⟩
      have s04 := s03.trans s4
      have hb4 := lst_mono (R := U3R) (fun s h => U3R.same s h) s4 hb3
      have hF4 := s4 _ _ hF1
      refine for_listG (H0 := H4) (R := TriAt C) (sql hy4) hpy (fun s h => TriAt.same s h) (fun i σ H5 => ∃ ii ln jj vv F bl on tw rw', σ = [some v, some u, some (.ref t), some (.ref t2), some (.ref pl), some (.ref D), ii, ln, jj, vv, some (.ref F), bl, on, tw, rw', none, none, none] ∧ Same H4 H5 ∧ LstOf U3R H5 F (cellsU ((unlikeH h1 h2).take i)))
        ⟨_, _, _, _, F0, _, _, _, _, rfl, Same.refl _, by rw [List.take_zero]; exact ⟨[], hF4, .nil⟩⟩ (fun i σ H5 ⟨_, _, _, _, _, _, _, _, _, _, s5, _⟩ => s5) ?_ ?_
      · rintro i x p σ H5 hi hpi ⟨tp, bu, rfl, htp, hbu⟩ ⟨ii, ln, jj, vv, F, bl, on, tw, rw', rfl, s5, hbF⟩
        refine ⟨tp, _, rfl, sqt htp, rfl, _, _, rfl, _, _, rfl, _, _, rfl, rfl, ?_⟩
        obtain ⟨m, q, hm, hq, z1, z2, z3, z4, z5, z6⟩ := U.fin p (List.mem_of_getElem? hpi)
        obtain ⟨ba, bdx, rfl, hba⟩ := id hbu
        have hbb : (bF p.1.t p.1.l p.1.b p.1.r) = bF p.1.t p.1.l (some m) (some q) := by rw [hm, hq]
        refine ⟨_, rfl, ba, C, bdx, _, _, rfl, hba, T.cl, T.nt, bF_top, _, rfl, ba, C, bdx, _, _, rfl, hba, T.cl, T.nb, bF_bottom, m, 1, by rw [hm]; rfl, rfl, p.1.t, m + 1, rfl, ⟨by omega, by omega, by omega, by omega⟩, ?_⟩
        have et : cellsU ((unlikeH h1 h2).take (i + 1)) = cellsU ((unlikeH h1 h2).take i) ++ blkU p := by
          unfold cellsU
          rw [take_succ' hpi, List.flatMap_append]
          simp
        have lall := U.few
        have lpre : (cellsU ((unlikeH h1 h2).take (i + 1))).length ≤ (cellsU (unlikeH h1 h2)).length := fm_pre _ _
        rw [et, List.length_append] at lpre
        have hblk : blkU p = (upN p.1.t (m + 1 - p.1.t).toNat).flatMap (rowU p.1 p.2.1 p.2.2) := by
          unfold blkU
          rw [hm]
          rfl
        rw [hblk] at et lpre
        generalize cellsU ((unlikeH h1 h2).take i) = done at hbF et lpre
        refine for_range (lo := p.1.t) (n := (m + 1 - p.1.t).toNat) (fun k2 σ H6 => ∃ F rw', σ = [some v, some u, some (.ref t), some (.ref t2), some (.ref pl), some (.ref D), ii, ln, jj, vv, some (.ref F), some (.ref ba), some (.str p.2.1), some (.str p.2.2), rw', none, none, none] ∧ Same H5 H6 ∧ LstOf U3R H6 F (done ++ (upN p.1.t k2).flatMap (rowU p.1 p.2.1 p.2.2))) ?_ ?_ ?_
        · exact ⟨F, _, rfl, Same.refl _, by show LstOf U3R H5 F (done ++ []); rw [List.append_nil]; exact hbF⟩
        · rintro k2 σ H6 hk2 ⟨F6, rw6, rfl, s6, hb6⟩
          obtain ⟨acc6, hF6, hp6⟩ := id hb6
          have hba6 := s6 _ _ hba
          have et3 : (upN p.1.t (k2 + 1)).flatMap (rowU p.1 p.2.1 p.2.2) = (upN p.1.t k2).flatMap (rowU p.1 p.2.1 p.2.2) ++ rowU p.1 p.2.1 p.2.2 (p.1.t + k2) := by
            show (upN p.1.t k2 ++ [p.1.t + (k2 : Int)]).flatMap _ = _
            rw [List.flatMap_append]
            simp
          have l3 : ((upN p.1.t (k2 + 1)).flatMap (rowU p.1 p.2.1 p.2.2)).length ≤ ((upN p.1.t (m + 1 - p.1.t).toNat).flatMap (rowU p.1 p.2.1 p.2.2)).length := by
            rw [upN_take (lo := p.1.t) (K := (m + 1 - p.1.t).toNat) (k := k2 + 1) hk2]
            exact fm_pre _ _
          have hrow : rowU p.1 p.2.1 p.2.2 (p.1.t + k2) = (upN p.1.l (q + 1 - p.1.l).toNat).map fun c => ((p.1.t + (k2 : Int), c), p.2.1, p.2.2) := by
            unfold rowU
            rw [hq]
            rfl
          rw [et3, hrow, List.length_append, List.length_map, upN_len] at l3
          rw [hrow] at et3
          have l6 := Paired.length hp6
          rw [List.length_append] at l6
          generalize (upN p.1.t k2).flatMap (rowU p.1 p.2.1 p.2.2) = done2 at hb6 hp6 et3 l3 l6
          refine ⟨_, rfl, _, rfl, ba, C, bdx, _, _, rfl, hba6, T.cl, T.nl, bF_left, _, rfl, ba, C, bdx, _, _, rfl, hba6, T.cl, T.nr, bF_right, q, 1, by rw [hq]; rfl, rfl, p.1.l, q + 1, rfl, ⟨by omega, by omega, by omega, by omega⟩, fun E hE => ?_⟩
          refine lc_genW (J := Itr p.1.l (q + 1 - p.1.l).toNat) (ms := upN p.1.l (q + 1 - p.1.l).toNat) (R := IntV) (R' := U3R) (keep := fun _ => true) (f := fun c => (((p.1.t + (k2 : Int), c), p.2.1, p.2.2) : U3)) (G := fun _ => True) (by rw [upN_len]; exact walk_range) hE (fun _ _ => trivial) (fun i2 x H7 H8 m2 hm2 s7 y => ?_) (by rw [upN_len]; omega) (fun s h => U3R.same s h) u3_del ?_ ?_
          · obtain ⟨rfl, hx⟩ := y
            have hi2 : i2 < (q + 1 - p.1.l).toNat := by
              have := (List.getElem?_eq_some_iff.mp hm2).1
              rw [upN_len] at this
              exact this
            rw [upN_get hi2] at hm2
            cases hm2
            exact ⟨Same.refl _, hx⟩
          · rintro x m2 H7 _ rfl s7 QT QF g1 g2
            refine ⟨rfl, iteT (B := QF H7) ⟨_, rfl, _, rfl, (by show 2 ≤ sizeLine; decide), fun q1 hq1 => ⟨_, rfl, _, rfl, (by show 3 ≤ sizeLine; decide), fun q2 hq2 => ?_⟩⟩⟩
            have s8 := same_new (o := .tup [.int (p.1.t + (k2 : Int)), .int m2]) hq1
            have s9 := same_new (o := .tup [.ref q1, .str p.2.1, .str p.2.2]) hq2
            exact g1 rfl _ _ (s8.trans s9) ⟨q2, q1, rfl, upd_same, s9 _ _ upd_same⟩
          · intro H7 s7 hL
            rw [filtT] at hL
            obtain ⟨ys7, hE7, hy7⟩ := hL
            have hF7 := s7 _ _ hF6
            have l7 := Paired.length hy7
            rw [List.length_map, upN_len] at l7
            refine ⟨F6, E, acc6, ys7, rfl, rfl, hF7, hE7, sz_le (by omega), fun p8 hp8 => ?_⟩
            have s8 := same_new (o := .lst (acc6 ++ ys7)) hp8
            refine ⟨p8, _, rfl, (s6.trans s7).trans s8, ?_⟩
            rw [et3, ← List.append_assoc]
            exact ⟨_, upd_same, paired_imp (fun _ _ z => U3R.same s8 z) (paired_app (paired_imp (fun _ _ z => U3R.same s7 z) hp6) hy7)⟩
        · rintro σ H6 ⟨F6, rw6, rfl, s6, hb6⟩
          refine ⟨_, _, _, _, F6, _, _, _, _, rfl, s5.trans s6, ?_⟩
          rw [et]
          exact hb6
      · rintro σ H5 ⟨ii, ln, jj, vv, F, bl, on, tw, rw', rfl, s5, hbF⟩
        rw [List.take_of_length_le (Nat.le_refl _)] at hbF
        have s05 := s04.trans s5
        have hb5 := lst_mono (R := U3R) (fun s h => U3R.same s h) s5 hb4
        refine ⟨_, rfl, _, rfl, v, u, h1, h2, rs, cs, rfl, hS1.same s05, hS2.same s05, U.ok1, U.ok2, U.fine, fun H6 z s6 hz => ?_⟩
        obtain ⟨za, zdx, zl, rfl, hza, hzl⟩ := id hz
        have lz : (areaOf ((unlikeH h1 h2).map (·.1))).length ≤ 400 := (fine_byK kOr U.fine (fine_nil rs cs U.ok1.r U.ok1.c)).2.2.2.2.2.2
        have hbF6 := lst_mono (R := U3R) (fun s h => U3R.same s h) s6 hbF
        have hb6 := lst_mono (R := U3R) (fun s h => U3R.same s h) s6 hb5
        have s06 := s05.trans s6
        obtain ⟨fx, hF6, hpF6⟩ := id hbF6
        obtain ⟨dxs, hD6, hpD6⟩ := id hb6
        have alk : ∀ b b' : U3, PySem.W.alike (encU b) (encU b') = true := fun b b' => by simp [encU, PySem.W.alike, PySem.W.alikeAll]
        have dpt : ∀ b : U3, (encU b).depth ≤ 8 := fun b => by simp [encU, PyData.depth, PyData.depthAll]
        refine ⟨_, rfl, U3, cellsU (unlikeH h1 h2), encU, U3R H6, F, fx, rfl, sql hF6, hpF6, fun x b _ hx => encU_dp hx, alk, PySem.W.Sortable.tuples fun p => ⟨_, _, rfl⟩, fun b _ => dpt b, fun ys1 q1 hq1 hys1 => ?_⟩
        have s7 := same_new (o := .lst ys1) hq1
        have hD7 := s7 _ _ hD6
        refine ⟨_, rfl, U3, dueL n c tab sec, encU, U3R (upd H6 q1 (.lst ys1)), D, dxs, rfl, sql hD7, paired_imp (fun _ _ z => U3R.same s7 z) hpD6, fun x b _ hx => encU_dp hx, alk, PySem.W.Sortable.tuples fun p => ⟨_, _, rfl⟩, fun b _ => dpt b, fun ys2 q2 hq2 hys2 => ?_⟩
        have s8 := same_new (o := .lst ys2) hq2
        have e1 : (cellsU (unlikeH h1 h2)).mergeSort (PySem.W.dataLe false encU) = sortU3 (dueL n c tab sec) := U.same
        rw [e1] at hys1
        have hys2' : Paired (U3R (upd H6 q1 (.lst ys1))) ys2 (sortU3 (dueL n c tab sec)) := hys2
        have shd : SeqAt.shaped (.list ((sortU3 (dueL n c tab sec)).map encU)) = true := encU_sh fun x hx => U.txts x (List.mem_mergeSort.mp hx)
        refine ⟨.list ((sortU3 (dueL n c tab sec)).map encU), .list ((sortU3 (dueL n c tab sec)).map encU), .lst (sql (s8 _ _ upd_same)) (dpAll_of (paired_imp (fun _ _ z => encU_dp (U3R.same (s7.trans s8) z)) hys1)), .lst (sql upd_same) (dpAll_of (paired_imp (fun _ _ z => encU_dp (U3R.same s8 z)) hys2')), shd, shd, false, by rw [eqv_same shd]; rfl, iteF ?_⟩
        have s68 := s7.trans s8
        have hza8 := s68 _ _ hza
        have hz8 := hz.same s68
        refine ⟨_, rfl, za, zdx, _, rfl, hza8, a_no (by decide +kernel), _, _, rfl, hz8, by omega, U.small, fun H9 s9 => ?_⟩
        have s69 := s68.trans s9
        have hD9 := s69 _ _ hD6
        refine ⟨_, rfl, _, dxs.length, rfl, Or.inl ⟨_, sql hD9, rfl⟩, rfl, false, ?_, iteF ?_⟩
        · rw [U.size, Paired.length hpD6]
          show V.bl (!decide (V.int _ = V.int _)) = .bl false
          rw [decide_eq_true rfl]
          rfl
        · refine ⟨_, rfl, D, rfl, ⟨_, sql hD9⟩, fun E hE => lc_gen (R := U3R) (R' := BlV) (keep := fun _ => true) (f := fun x : U3 => hasB (areaOf ((unlikeH h1 h2).map (·.1))) x.1.1 x.1.2) hE (sql hD9) (paired_imp (fun _ _ z => U3R.same s69 z) hpD6) (by omega) (fun s h => U3R.same s h) (fun _ h => h) (fun _ h => h) ?_ ?_⟩
          · rintro x uu H10 huu ⟨pa, pb, rfl, hpa, hpb⟩ s10 QT QF g1 g2
            have hge := dueL_ge huu
            have hz10 := hz8.same (s9.trans s10)
            have hza10 := (s9.trans s10) _ _ hza8
            exact ⟨rfl, iteT (B := QF H10) ⟨_, rfl, za, zdx, _, rfl, hza10, a_no (by decide +kernel), _, rfl, pa, _, _, _, rfl, rfl, sqt hpa, atI_nat (j := 0) rfl, _, _, _, uu.1.1, uu.1.2, rfl, hz10, by omega, ⟨pb, rfl, hpb, by omega, by omega⟩, fun H11 s11 => g1 rfl _ H11 s11 rfl⟩⟩
          · intro H10 s10 hL
            rw [filtT] at hL
            have e := lst_bls hL
            have hall : ∀ b ∈ (dueL n c tab sec).map (fun x : U3 => hasB (areaOf ((unlikeH h1 h2).map (·.1))) x.1.1 x.1.2), b = true := fun b hb => by
              obtain ⟨x, hx, rfl⟩ := List.mem_map.mp hb
              exact U.has x hx
            generalize (dueL n c tab sec).map (fun x : U3 => hasB (areaOf ((unlikeH h1 h2).map (·.1))) x.1.1 x.1.2) = bs at e hall
            refine ⟨E, _, rfl, .inl (sql e), rfl, ?_, ?_⟩
            · rw [List.all_map, List.all_eq_true]
              intro b _
              rfl
            · have e3 : inV (.bl false) (bs.map V.bl) = false := by
                unfold inV
                rw [List.any_map, List.any_eq_false]
                intro b hb
                rw [hall b hb]
                decide
              rw [if_pos rfl, e3]
              exact k _ ((s06.trans s69).trans s10)
end
end CB
end
section
set_option maxHeartbeats 4000000
/-! what the law asks of the mathematics; words for its walk -/
namespace CB
open PySem PySem.Spec PyProof.Rows L2 CBM
structure RectW (tab : List (List Str)) (r k : Nat) : Prop where
  rows : tab.length = r
  cols : ∀ row ∈ tab, row.length = k
  vals : ∀ row ∈ tab, ∀ v ∈ row, v ∈ vals14
def gridR (n : Int) : List Int := 1 :: upN n 15
theorem gridR_len (n : Int) : (gridR n).length ≤ 20 := by
  unfold gridR
  rw [List.length_cons, upN_len]
  decide
def setTab (tab : List (List Str)) (i j : Nat) (v : Str) : List (List Str) := tab.set i ((tab.getD i []).set j v)
def cellB (n c : Int) : Blk := ⟨n, c, some n, some c⟩
/-- the mathematics that the law rests on: Sh h tab n c: the sheet h has the values of tab at n, c, and none elsewhere -/
structure MathL (Sh : Held → List (List Str) → Int → Int → Prop) : Prop where
  fit : ∀ {h tab n c}, Sh h tab n c → HeldFit (gridR n) (gridR c) h
  full : ∀ {h tab n c}, Sh h tab n c → ∀ p ∈ h, p.2 ≠ []
  fits : ∀ {tab : List (List Str)} {n c : Int}, 1 ≤ n → 1 ≤ c → tab.length ≤ 14 → (∀ row ∈ tab, row.length ≤ 14) → ∀ v, Fits (gridR n) (gridR c) (tabBlks v n c tab)
  filled : ∀ {tab r k n c}, RectW tab r k → 1 ≤ r → r ≤ 14 → 1 ≤ k → k ≤ 14 → 1 ≤ n → 1 ≤ c → Sh (filledH tab n c) tab n c
  cells : ∀ {h tab r k n c}, Sh h tab n c → RectW tab r k → 1 ≤ n → 1 ≤ c → ∀ (i j : Nat) (row : List Str) (x : Str), tab[i]? = some row → row[j]? = some x → ∃ q, valsAt h (n + i) (c + j) = x :: q
  below : ∀ {h tab r k n c}, Sh h tab n c → RectW tab r k → 1 ≤ n → 1 ≤ c → ∃ q, valsAt h (n + tab.length) c = PySem.Str.ofString "" :: q
  beside : ∀ {h tab r k n c}, Sh h tab n c → RectW tab r k → 1 ≤ n → 1 ≤ c → ∃ q, valsAt h n (c + k) = PySem.Str.ofString "" :: q
  pairs : ∀ {h tab r k n c}, Sh h tab n c → RectW tab r k → 1 ≤ n → 1 ≤ c → CBM.pairsH h = lawPairs tab n c
  found : ∀ {tab r k n c}, RectW tab r k → ∀ p ∈ lawFound tab n c, ∃ m q, p.1.b = some m ∧ p.1.r = some q
  told : ∀ {h tab r k n c}, Sh h tab n c → RectW tab r k → 1 ≤ n → 1 ≤ c → sortT (keysH h) = valsT (PySem.Str.ofString "" :: valsT tab.flatten)
  wher : ∀ {h tab r k n c}, Sh h tab n c → RectW tab r k → 1 ≤ n → 1 ≤ c → r ≤ 14 → k ≤ 14 → ∀ v, v ∈ tab.flatten → v ≠ PySem.Str.ofString "" → (getH h v).getD [] = areaOf (tabBlks v n c tab)
  hold : ∀ {h tab n c}, Sh h tab n c → holdH h = h
  set : ∀ {h tab r k n c i j v}, Sh h tab n c → RectW tab r k → 1 ≤ n → 1 ≤ c → r ≤ 14 → k ≤ 14 → i < r → j < k → v ∈ vals14 → Sh (fillH h (areaOf [cellB (n + i) (c + j)]) v) (setTab tab i j v) n c
  unl : ∀ {h1 h2 tab sec r k n c}, Sh h1 tab n c → Sh h2 sec n c → RectW tab r k → RectW sec r k → 1 ≤ n → 1 ≤ c → n ≤ 2000000000 → c ≤ 2000000000 → 1 ≤ r → r ≤ 14 → 1 ≤ k → k ≤ 14 → r * k ≤ 60 → UnlOk (gridR n) (gridR c) h1 h2 tab sec n c
/-! ### objects that hold no references -/
theorem ne_ref {H : Hp} {l q : Addr} {C : Addr} {bs : List Blk} {x : V} {r : List V} (h : Blks C H l bs) (hb : bs ≠ []) (hq : H q = some (.lst (x :: r))) (hx : ∀ a, x ≠ .ref a) : l ≠ q := by
  rintro rfl
  obtain ⟨vs, h1, h2⟩ := h
  rw [h1] at hq
  injection hq with hq
  injection hq with hq
  subst hq
  cases h2 with
  | cons r' _ =>
    obtain ⟨a, _, e, _⟩ := r'
    exact hx a e
theorem blks_delT {H : Hp} {l q : Addr} {C : Addr} {bs : List Blk} {x : V} {r : List V} (h : Blks C H l bs) (hb : bs ≠ []) (hq : H q = some (.lst (x :: r))) (hx : ∀ a, x ≠ .ref a) : Blks C (delH' H q) l bs := by
  have ne := ne_ref h hb hq hx
  obtain ⟨vs, h1, h2⟩ := h
  exact ⟨vs, by rw [del_ne ne]; exact h1, paired_imp (fun _ _ z => blk_del hq z) h2⟩
theorem dict_delT {C CA : Addr} {H : Hp} {d q : Addr} {h : Held} {x : V} {r : List V} (hd : DictAt C CA H d h) (hf : ∀ p ∈ h, p.2 ≠ []) (hq : H q = some (.lst (x :: r))) (hx : ∀ a, x ≠ .ref a) : DictAt C CA (delH' H q) d h := by
  obtain ⟨kvs, h1, h2⟩ := hd
  refine ⟨kvs, by rw [del_ne (ne_of h1 hq fun z => nomatch z)]; exact h1, ?_⟩
  clear h1
  induction h2 with
  | nil => exact .nil
  | @cons kv p kvs h r' _ ih =>
    refine .cons ⟨r'.1, ?_⟩ (ih fun q hq => hf q (List.mem_cons_of_mem _ hq))
    obtain ⟨a, dx, l, e1, e2, e3⟩ := r'.2
    exact ⟨a, dx, l, e1, by rw [del_ne (ne_of e2 hq fun z => nomatch z)]; exact e2, blks_delT e3 (hf p (List.mem_cons_self ..)) hq hx⟩
theorem sheet_delT {C CA CS : Addr} {H : Hp} {q : Addr} {v : V} {h : Held} {x : V} {r : List V} (hs : SheetAt C CA CS H v h) (hf : ∀ p ∈ h, p.2 ≠ []) (hq : H q = some (.lst (x :: r))) (hx : ∀ a, x ≠ .ref a) : SheetAt C CA CS (delH' H q) v h := by
  obtain ⟨a, dx, d, e1, e2, e3⟩ := hs
  exact ⟨a, dx, d, e1, by rw [del_ne (ne_of e2 hq fun z => nomatch z)]; exact e2, dict_delT e3 hf hq hx⟩
/-! ### pairs as data -/
def quD (p : Blk × Str) : PyData := .tuple [.int p.1.t, .int p.1.l, oD p.1.b, oD p.1.r, .str p.2]
theorem quD_dp {K : PySem.W.Frag} {H : Hp} {v : V} {p : Blk × Str} (h : QuR H v p) : Dp K H v (quD p) := by
  obtain ⟨a, rfl, ha⟩ := h
  exact .tup (sqt ha) (.cons (.int _) (.cons (.int _) (.cons (oD_dp _) (.cons (oD_dp _) (.cons (.str _) .nil)))))
theorem quD_sh {l : List (Blk × Str)} (h : ∀ p ∈ l, PyData.strOk p.2 = true) : SeqAt.shaped (.list (l.map quD)) = true := sh_list fun p hp => by
  obtain ⟨⟨t, l', b, r⟩, v⟩ := p
  have hv := h _ hp
  cases b <;> cases r <;> simp_all [quD, oD, PyData.canLay0, PyData.canLayAll0, PyData.depth, PyData.depthAll]
theorem pairs_val {h : Held} {p : Blk × Txt} (hp : p ∈ CBM.pairsH h) : ∃ q ∈ h, q.1 = p.2 := by
  unfold CBM.pairsH at hp
  rw [List.mem_mergeSort] at hp
  unfold partsH at hp
  obtain ⟨q, hq, hp⟩ := List.mem_flatMap.mp hp
  obtain ⟨b, hb, rfl⟩ := List.mem_map.mp hp
  exact ⟨q, (List.mem_filter.mp hq).1, rfl⟩
def intsD_sh (ns : List Int) : SeqAt.shaped (.list (ns.map PyData.int)) = true := sh_list fun s _ => ⟨by simp [PyData.canLay0], by simp [PyData.depth]⟩
theorem ints_dpAll {K : PySem.W.Frag} {H : Hp} : ∀ l : List Int, DpAll K H (l.map V.int) (l.map PyData.int)
  | [] => .nil
  | _ :: l => .cons (.int _) (ints_dpAll l)
section
variable {X : Cx}
theorem call_list_ofK (K : PySem.W.Frag) (h : X.K = K := by rfl) : CallR X (.type "list") (fun xs H Q => ∃ p ys, xs = [.ref p] ∧ (SqL K H p ys ∨ SqT K H p ys) ∧ ∀ l, H l = none → Q (.ref l) (upd H l (.lst ys))) := by
  subst h
  exact call_list_of
end
/-! ### the number that a draw is asked for -/
abbrev rInt1 : List V → Hp → VK → Prop := fun xs H Q => (∃ i, xs = [.int i] ∧ Q (.int i) H) ∨ ∃ k, xs = [.bl k] ∧ Q (.int (if k then 1 else 0)) H
theorem rd_many {K : PySem.W.Frag} {σ : L2.St} {H : Hp} {q a : Addr} {ns : List Int} {R : List V → Hp → Prop} (h1 : σ[1]? = some (some (.ref q))) (h0 : σ[0]? = some (some (.ref a))) (hS : SqL K H a (ns.map V.int)) (k : ∀ H' m, Same H H' → 1 ≤ m → m ≤ 14 → R [.ref q, .int m] H') :
    (tCons (tVar 1) (tCons (tOp (rIxL K) (tLst (tCons (tC (.int 3)) (tCons (tC (.int 14)) tNil))) (tCB rInt1 (tCons (tOp (rNeD K) (tVar 0) (tLst tNil)) tNil))) tNil)) σ H R := by
  refine ⟨_, h1, (by show 2 ≤ sizeLine; decide), fun p hp => ?_⟩
  have s1 := same_new (o := .lst [.int 3, .int 14]) hp
  refine ⟨_, h0, Nat.zero_le _, fun p2 hp2 => ?_⟩
  have s2 := same_new (o := .lst []) hp2
  refine ⟨.list (ns.map PyData.int), .list [], .lst ((s1.trans s2).seq hS) (ints_dpAll ns), nil_dp upd_same, intsD_sh ns, nil_sh, .inr ⟨_, rfl, ?_⟩⟩
  have hp' := s2 _ _ (upd_same (H := H) (a := p) (o := .lst [.int 3, .int 14]))
  cases e : (!PyData.eqv (.list (ns.map PyData.int)) (.list [])) with
  | true => exact ⟨p, _, _, .int 14, rfl, rfl, sql hp', atI_nat (j := 1) rfl, k _ 14 (s1.trans s2) (by decide) (by decide)⟩
  | false => exact ⟨p, _, _, .int 3, rfl, rfl, sql hp', atI_nat (j := 0) rfl, k _ 3 (s1.trans s2) (by decide) (by decide)⟩
end CB
end
section
set_option maxHeartbeats 8000000
/-! the law -/
namespace CB
open PySem PySem.Spec PyProof.Rows L2 CBM
abbrev sLaw : Stmt := top 64
abbrev NLaw : List Str := ["_law_script", "_law_well_here", "_law_rows", "_law_columns", "_law_far", "_law_place", "_law_table_here", "_law_sheet", "_law_pairs_here", "_law_value", "_law_other", "_law_second", "_law_k", "_law_i", "_law_j", "_law_line"]
theorem scLaw : FnScope NLaw ["_law_script"] (defScope sLaw) := ⟨rfl, rfl, rfl, by decide +kernel, rfl, by decide +kernel, by decide +kernel⟩
def spLaw (K : PySem.W.Frag) : Sp := fun vs H Q _ => ∃ (a : Addr) (ns : List Int), vs = [.ref a] ∧ SqL K H a (ns.map V.int) ∧ ns.length ≤ 63 ∧ ∀ H', Q (.bl true) H'
theorem WellAt.same {H H' : Hp} {q : Addr} {a b c : Int} (e : Same H H') (h : WellAt H q a b c) : WellAt H' q a b c := ⟨e _ _ h.1, h.2⟩
theorem sm_keep {G H H' : Hp} {q : Addr} (s : Same G H) (hq : G q = none) (k : ∀ b o, b ≠ q → H b = some o → H' b = some o) : Same G H' := fun b o e => k b o (ne_of_none e hq) (s b o e)
theorem lst_delq {α : Type} {R : Hp → V → α → Prop} {H : Hp} {p q : Addr} {l : List α} {acc : List V} (hq : H q = some (.lst acc)) (ne : p ≠ q) (mD : ∀ {H v x acc}, H q = some (.lst acc) → R H v x → R (delH' H q) v x) (h : LstOf R H p l) : LstOf R (delH' H q) p l := by
  obtain ⟨vs, h1, h2⟩ := h
  exact ⟨vs, by rw [del_ne ne]; exact h1, paired_imp (fun _ _ z => mD hq z) h2⟩
theorem ixN_nat {n j : Nat} (h : j < n) : ixN n (j : Int) = some j := by
  unfold ixN
  rw [if_pos (by omega), if_pos (by omega)]
  congr 1
def delS (H : Hp) (l : List Addr) : Hp := fun b => if b ∈ l then none else H b
theorem delS_ne {H : Hp} {l : List Addr} {b : Addr} (h : b ∉ l) : delS H l b = H b := if_neg h
theorem delS_mem {H : Hp} {l : List Addr} {b : Addr} (h : b ∈ l) : delS H l b = none := if_pos h
theorem delS_sub {H : Hp} {l : List Addr} : Same (delS H l) H := fun b o e => by
  by_cases hb : b ∈ l
  · rw [delS_mem hb] at e
    cases e
  · rw [delS_ne hb] at e
    exact e
theorem delS_same {G H : Hp} {l : List Addr} (s : Same G H) (h : ∀ b ∈ l, G b = none) : Same G (delS H l) := fun b o e => by
  rw [delS_ne fun hb => by rw [h b hb] at e; cases e]
  exact s _ _ e
theorem rectW_of {tab : List (List Str)} {r k : Nat} (h : Rect tab r k) : RectW tab r k := ⟨h.rows, h.cols, fun row hr v hv => List.mem_append_left _ (h.vals row hr v hv)⟩
theorem gridR_one (n : Int) : (1 : Int) ∈ gridR n := List.mem_cons_self ..
/-- while the second table is made -/
def SecI (H25 : Hp) (D : Addr) (tab : List (List Str)) (i : Nat) (H : Hp) : Prop := Same H25 H ∧ ∃ addrs : List Addr, H D = some (.lst (addrs.map V.ref)) ∧ Paired (fun e (row : List Str) => H e = some (.lst (row.map V.str)) ∧ H25 e = none ∧ e ≠ D) addrs (tab.take i) ∧ addrs.Nodup
/-- the second table: its rows are all its own -/
def Sec (GB : Hp) (q D : Addr) (H : Hp) (sec : List (List Str)) : Prop := ∃ addrs : List Addr, H D = some (.lst (addrs.map V.ref)) ∧ Paired (fun e (row : List Str) => H e = some (.lst (row.map V.str)) ∧ GB e = none ∧ e ≠ q ∧ e ≠ D) addrs sec ∧ addrs.Nodup
theorem Sec.keep {GB H H' : Hp} {q D x : Addr} {sec : List (List Str)} (h : Sec GB q D H sec) (kp : ∀ b o, b ≠ x → H b = some o → H' b = some o) (hD : D ≠ x) (he : ∀ e (row : List Str), H e = some (.lst (row.map V.str)) → e ≠ q → e ≠ x) : Sec GB q D H' sec := by
  obtain ⟨as, h1, h2, h3⟩ := h
  exact ⟨as, kp _ _ hD h1, paired_imp (fun e row ⟨z1, z2, z3, z4⟩ => ⟨kp _ _ (he e row z1 z3) z1, z2, z3, z4⟩) h2, h3⟩
theorem Sec.same {GB H H' : Hp} {q D : Addr} {sec : List (List Str)} (h : Sec GB q D H sec) (s : Same H H') : Sec GB q D H' sec := by
  obtain ⟨as, h1, h2, h3⟩ := h
  exact ⟨as, s _ _ h1, paired_imp (fun e row ⟨z1, z2, z3, z4⟩ => ⟨s _ _ z1, z2, z3, z4⟩) h2, h3⟩
theorem Sec.tab {GB H : Hp} {q D : Addr} {sec : List (List Str)} (h : Sec GB q D H sec) : TabAt H D sec := by
  obtain ⟨as, h1, h2, h3⟩ := h
  refine ⟨_, h1, ?_⟩
  clear h1 h3
  induction h2 with
  | nil => exact .nil
  | cons r _ ih => exact .cons ⟨_, rfl, r.1⟩ ih
theorem Sec.at {GB H : Hp} {q D : Addr} {sec : List (List Str)} {i : Nat} {row : List Str} (h : Sec GB q D H sec) (hi : sec[i]? = some row) : ∃ (xs : List V) (e : Addr), H D = some (.lst xs) ∧ xs[i]? = some (.ref e) ∧ H e = some (.lst (row.map V.str)) ∧ GB e = none ∧ e ≠ q ∧ e ≠ D := by
  obtain ⟨as, h1, h2, h3⟩ := h
  have l := Paired.length h2
  have l2 := (List.getElem?_eq_some_iff.mp hi).1
  have hx : as[i]? = some as[i] := List.getElem?_eq_getElem (by omega)
  obtain ⟨row', hr, z1, z2, z3, z4⟩ := paired_getI h2 hx
  rw [hi] at hr
  cases hr
  exact ⟨_, as[i], h1, by rw [List.getElem?_map, hx]; rfl, z1, z2, z3, z4⟩
theorem paired_impI {α β : Type} {F G : α → β → Prop} : ∀ {l : List α} {m : List β}, Paired F l m → (∀ (k : Nat) (a : α) (b : β), l[k]? = some a → F a b → G a b) → Paired G l m
  | [], [], .nil, _ => .nil
  | a :: l, b :: m, .cons r t, h => .cons (h 0 a b rfl r) (paired_impI t fun k a b hk hf => h (k + 1) a b hk hf)
theorem paired_setI {α β : Type} {F G : α → β → Prop} {i : Nat} {y' : β} : ∀ {l : List α} {m : List β} {j : Nat}, Paired F l m → (∀ (k : Nat) (a : α) (b : β), l[k]? = some a → k + j ≠ i → F a b → G a b) → (∀ (k : Nat) (a : α), l[k]? = some a → k + j = i → G a y') → j ≤ i → Paired G l (m.set (i - j) y')
  | [], [], j, .nil, _, _, _ => .nil
  | a :: l, b :: m, j, .cons r t, h1, h2, hj => by
    by_cases e : i = j
    · subst e
      rw [Nat.sub_self]
      refine .cons (h2 0 a rfl (by omega)) ?_
      have := paired_impI t fun k a b hk hf => h1 (k + 1) a b hk (by omega) hf
      exact this
    · obtain ⟨n, hn⟩ : ∃ n, i - j = n + 1 := ⟨i - j - 1, by omega⟩
      rw [hn]
      refine .cons (h1 0 a b rfl (by omega) r) ?_
      have h := paired_setI (i := i) (y' := y') (j := j + 1) t (fun k a b hk ne hf => h1 (k + 1) a b hk (by omega) hf) (fun k a hk e => h2 (k + 1) a hk (by omega)) (by omega)
      have e2 : i - (j + 1) = n := by omega
      rw [e2] at h
      exact h
theorem nodup_ix {α : Type} : ∀ {l : List α} {i j : Nat} {x : α}, l.Nodup → l[i]? = some x → l[j]? = some x → i = j
  | [], _, _, _, _, h, _ => by cases h
  | a :: l, 0, 0, _, _, _, _ => rfl
  | a :: l, 0, j + 1, x, h, h1, h2 => by
    cases h1
    exact absurd (List.mem_of_getElem? (l := l) (show l[j]? = some a from h2)) (List.nodup_cons.mp h).1
  | a :: l, i + 1, 0, x, h, h1, h2 => by
    cases h2
    exact absurd (List.mem_of_getElem? (l := l) (show l[i]? = some a from h1)) (List.nodup_cons.mp h).1
  | a :: l, i + 1, j + 1, x, h, h1, h2 => by rw [nodup_ix (List.nodup_cons.mp h).2 h1 h2]
theorem Sec.set {GB H : Hp} {q D e : Addr} {sec : List (List Str)} {i j : Nat} {u : Str} {row : List Str} (h : Sec GB q D H sec) (hi : sec[i]? = some row) (he : H e = some (.lst (row.map V.str))) (hx : ∃ xs : List V, H D = some (.lst xs) ∧ xs[i]? = some (.ref e)) : Sec GB q D (upd H e (.lst ((row.set j u).map V.str))) (setTab sec i j u) := by
  obtain ⟨as, h1, h2, h3⟩ := h
  obtain ⟨xs, h4, h5⟩ := hx
  rw [h1] at h4
  cases h4
  rw [List.getElem?_map] at h5
  obtain ⟨e', he', h5⟩ := Option.map_eq_some_iff.mp h5
  cases h5
  obtain ⟨row', hrow', z1, z2, z3, z4⟩ := paired_getI h2 he'
  refine ⟨as, by rw [upd_ne z4.symm]; exact h1, ?_, h3⟩
  unfold setTab
  have ed : sec.getD i [] = row := by rw [List.getD_eq_getElem?_getD, hi]; rfl
  rw [ed]
  refine paired_setI (j := 0) h2 (fun k a b hk ne ⟨w1, w2⟩ => ⟨?_, w2⟩) (fun k a hk ek => ?_) (Nat.zero_le _)
  · rw [upd_ne]
    · exact w1
    · rintro rfl
      exact ne (nodup_ix h3 hk he')
  · have ek' : k = i := by omega
    subst ek'
    rw [he'] at hk
    cases hk
    exact ⟨upd_same, z2, z3, z4⟩
theorem RectW.set {sec : List (List Str)} {r k i j : Nat} {u : Str} (h : RectW sec r k) (hu : u ∈ vals14) (hi : i < r) (hj : j < k) : RectW (setTab sec i j u) r k := by
  have hl := h.rows
  have hm : sec.getD i [] ∈ sec := by
    rw [List.getD_eq_getElem?_getD, List.getElem?_eq_getElem (by omega)]
    exact List.getElem_mem _
  unfold setTab
  refine ⟨by rw [List.length_set]; exact hl, fun row hr => ?_, fun row hr v hv => ?_⟩
  · rcases List.mem_or_eq_of_mem_set hr with hr | rfl
    · exact h.cols row hr
    · rw [List.length_set]
      exact h.cols _ hm
  · rcases List.mem_or_eq_of_mem_set hr with hr | rfl
    · exact h.vals row hr v hv
    · rcases List.mem_or_eq_of_mem_set hv with hv | rfl
      · exact h.vals _ hm v hv
      · exact hu
theorem gridR_mem {n : Int} {i : Nat} (h : i ≤ 14) : n + (i : Int) ∈ gridR n := List.mem_cons_of_mem _ (mem_upN.mpr ⟨by omega, by omega⟩)
theorem run_cell {n : Int} {i : Nat} (hn : 1 ≤ n) (h : i ≤ 13) : RunOk (gridR n) (n + i, some (n + (i : Int))) := ⟨gridR_mem (by omega), ⟨by show (1 : Int) ≤ n + i; omega, Int.le_refl _⟩, fun m e => by
  cases e
  have := gridR_mem (n := n) (i := i + 1) (by omega)
  rw [show n + ((i + 1 : Nat) : Int) = n + i + 1 by omega] at this
  exact this⟩
theorem fine_cell {n c : Int} {i j : Nat} (hn : 1 ≤ n) (hc : 1 ≤ c) (hi : i ≤ 13) (hj : j ≤ 13) : Fine (gridR n) (gridR c) [cellB (n + i) (c + j)] := ⟨gridR_len n, gridR_len c, fun b hb => by
  rw [List.mem_singleton.mp hb]
  exact ⟨run_cell hn hi, run_cell hc hj⟩, by show 1 ≤ 400; decide⟩
/-- the loop's state -/
def LoopI {C CA CS : Addr} (GB : Hp) (q D x3 dx3 : Addr) (b1 cM : Int) (Sh : Held → List (List Str) → Int → Int → Prop) (r k : Nat) (n c : Int) (H : Hp) : Prop := Same GB H ∧ (∃ a' c', WellAt H q a' b1 c' ∧ c' ≤ cM) ∧ ∃ (sec : List (List Str)) (h2 : Held) (d2 : Addr), Sec GB q D H sec ∧ RectW sec r k ∧ H x3 = some (.ins CS dx3 [("held", .ref d2)]) ∧ DictAt C CA H d2 h2 ∧ Sh h2 sec n c
theorem dict_keep {C CA : Addr} {H H' : Hp} {d q : Addr} {h : Held} {x : V} {r : List V} (hd : DictAt C CA H d h) (hf : ∀ p ∈ h, p.2 ≠ []) (hq : H q = some (.lst (x :: r))) (hx : ∀ a, x ≠ .ref a) (kp : ∀ b o, b ≠ q → H b = some o → H' b = some o) : DictAt C CA H' d h := (dict_delT hd hf hq hx).same (fun b o e => by
  by_cases hb : b = q
  · subst hb
    rw [del_self] at e
    cases e
  · rw [del_ne hb] at e
    exact kp b o hb e)
theorem gname_step {i : Nat} {v : V} {σ : L2.St} {H : Hp} {Q : L2.St → Hp → Prop} (h : Q (σ.set i (some v)) H) : gName i v σ H Q := h
theorem tseq_step {t u : TS} {D : Ends} {σ : L2.St} {H : Hp} (h : t { D with nx := u D } σ H) : tSeq t u D σ H := h
theorem wher_test {B : TT} {t u : TS} {σ : L2.St} {H : Hp} {D : Ends} {v : Str} (h9 : σ[9]? = some (some (.str v))) (hB : v ≠ PySem.Str.ofString "" → ∀ Q' : Bool → Hp → Prop, (∀ H1, Same H H1 → Q' false H1) → B σ H Q') (hQ : ∀ H1, Same H H1 → u D σ H1) : (tIfS (tAnd (tTest (tOp rNe (tVar 9) (tC (.str (PySem.Str.ofString ""))))) B) t u) D σ H := by
  refine ⟨_, h9, rfl, _, rfl, ?_⟩
  by_cases e : v = PySem.Str.ofString ""
  · subst e
    show if (!decide (V.str _ = V.str _)) = true then _ else _
    rw [decide_eq_true rfl]
    exact iteF (iteF (hQ H (Same.refl _)))
  · have e2 : (!decide (V.str v = V.str (PySem.Str.ofString ""))) = true := by simp [e]
    show if (!decide (V.str v = V.str (PySem.Str.ofString ""))) = true then _ else _
    rw [e2]
    exact iteT (hB e _ fun H1 s => iteF (hQ H1 s))
section
variable {P : Program} {w : World} {K : PySem.W.Frag} {mg : Str → Option Value} {base : Heap} {C CA CS : Addr}
/-- all that the law calls -/
structure Calls (P : Program) (w : World) (K : PySem.W.Frag) (mg : Str → Option Value) (base : Heap) (C CA CS : Addr) : Prop where
  cAt : C8.Cal P w K mg base 1 "_law_cell_at" (spCellAt K) []
  cWell : C8.Cal P w K mg base 1 "_law_well" spWell []
  cDraw : C8.Cal P w K mg base 1 "_law_draw" spDraw []
  cTab : C8.Cal P w K mg base 2 "_law_table" spTable []
  cFill : C8.Cal P w K mg base 12 "_law_filled" (spLFill C CA CS) []
  cPairs : C8.Cal P w K mg base 2 "_law_pairs" spLPairs []
  cCells : C8.Cal P w K mg base 8 "_law_cells_right" (spLCells C CA CS) []
  cTold : C8.Cal P w K mg base 6 "_law_told" (spLTold C CA CS) []
  cVals : C8.Cal P w K mg base 2 "_law_values" spLVals []
  cArea : C8.Cal P w K mg base 9 "_law_area" (spLArea C CA) []
  cUnl : C8.Cal P w K mg base 13 "_law_unlike_right" (spLUnl C CA CS) []
  mTold : C8.Met P w K mg base 1 CS "told" (spTold C CA CS) []
  mWhere : C8.Met P w K mg base 9 CS "where" (spWhere C CA CS) []
  mTwin : C8.Met P w K mg base 11 CS "twin" (spTwin C CA CS) []
  mFill : C8.Met P w K mg base 11 CS "fill" (spFill C CA CS) []
  kB : C8.Mak P w K mg base 4 "Block" C (spBInit C) []
  kA : C8.Mak P w K mg base 7 "Area" CA (spAInit C CA) []
theorem fn_law {f fl fe : Addr} {fd fdl fde : FuncData} {Sh : Held → List (List Str) → Int → Int → Prop} (M : MathL Sh) (F : FnD K "law" "law" sLaw [] f fd) (B : Bi mg) (TA : AK K mg CA) (G : Calls P w K mg base C CA CS)
    (Gl : FnOk P w K mg base C8.CX0 6 fl fdl ["self"] (spSLen C CA CS)) (ml : Meth K CS "__len__" fl) (bl : Binds K fdl ["self"] [])
    (Ge : FnOk P w K mg base C8.CX0 3 fe fde ["self", "other"] (spAEq C CA)) (me : Meth K CA "__eq__" fe) (be : Binds K fde ["self", "other"] []) (ne : PySem.W.findIn K (.ref CA) "__ne__" = some (some (.builtin "object.__ne__"))) :
    FnOk P w K mg base C8.CX0 14 f fd ["_law_script"] (spLaw K) := by
  refine F.ok scLaw (fun vs H Q E h => ?_) (fun cdv A outer s H vs Q E hr h => ?_)
  · obtain ⟨a, ns, rfl, _⟩ := h
    rfl
  · obtain ⟨a, ns, rfl, hS, hz, k⟩ := h
    refine ⟨_, PSs.nox (
      pss_cons (ps_set (i := 1) scLaw.nd rfl (Or.inl rfl) (C8.pe_c G.cWell hr (by decide) rfl (pa_cons (C8.pe_c G.cAt hr (by decide) rfl (pa_cons (pv 0) (pa_cons pe_int pa_nil))) pa_nil)))
      (pss_cons (ps_set (i := 2) scLaw.nd rfl (Or.inl rfl) (pe_op op_add pe_int (C8.pe_c G.cDraw hr (by decide) rfl (pa_cons (pv 1) (pa_cons (pe_ix ix_list (pe_lst (pa_cons pe_int (pa_cons pe_int pa_nil))) (pe_callTy call_int1 rfl B.int (by decide +kernel) (pa_cons (pe_cmpR (op_neD hr.units) (pv 0) (pe_lst pa_nil) (nomark _)) pa_nil)) (fun _ _ => rfl)) pa_nil)))))
      (pss_cons (ps_set (i := 3) scLaw.nd rfl (Or.inl rfl) (pe_op op_add pe_int (C8.pe_c G.cDraw hr (by decide) rfl (pa_cons (pv 1) (pa_cons (pe_ix ix_list (pe_lst (pa_cons pe_int (pa_cons pe_int pa_nil))) (pe_callTy call_int1 rfl B.int (by decide +kernel) (pa_cons (pe_cmpR (op_neD hr.units) (pv 0) (pe_lst pa_nil) (nomark _)) pa_nil)) (fun _ _ => rfl)) pa_nil)))))
      (pss_cons (ps_set (i := 4) scLaw.nd rfl (Or.inl rfl) (pe_ix ix_list (pe_lst (pa_cons pe_int (pa_cons (pe_op op_pow pe_int pe_int) pa_nil))) (C8.pe_c G.cDraw hr (by decide) rfl (pa_cons (pv 1) (pa_cons pe_int pa_nil))) (fun _ _ => rfl)))
      (pss_cons (ps_set (i := 5) scLaw.nd rfl (Or.inl rfl) (pe_tup (pa_cons (pe_op op_add pe_int (C8.pe_c G.cDraw hr (by decide) rfl (pa_cons (pv 1) (pa_cons (pv 4) pa_nil)))) (pa_cons (pe_op op_add pe_int (C8.pe_c G.cDraw hr (by decide) rfl (pa_cons (pv 1) (pa_cons (pv 4) pa_nil)))) pa_nil))))
      (pss_cons (ps_set (i := 6) scLaw.nd rfl (Or.inl rfl) (C8.pe_c G.cTab hr (by decide) rfl (pa_cons (pv 1) (pa_cons (pv 2) (pa_cons (pv 3) pa_nil)))))
      (pss_cons (ps_set (i := 7) scLaw.nd rfl (Or.inl rfl) (C8.pe_c G.cFill hr (by decide) rfl (pa_cons (pv 6) (pa_cons (pv 5) pa_nil))))
      (pss_cons (ps_set (i := 8) scLaw.nd rfl (Or.inl rfl) (C8.pe_c G.cPairs hr (by decide) rfl (pa_cons (pv 6) (pa_cons (pv 5) pa_nil))))
      (pss_cons (ps_if (PW.pt (pw_or (pt_not (pt_val (C8.pe_c G.cCells hr (by decide) rfl (pa_cons (pv 7) (pa_cons (pv 6) (pa_cons (pv 5) pa_nil)))))) (pw_or (pt_cmpR (op_neD hr.units) (C8.pe_c G.cTold hr (by decide) rfl (pa_cons (pv 7) pa_nil)) (pv 8) (nomark _))
          (pw_or1 (pt_cmpR op_ne (pe_callB (call_lenO Gl ml.at_ ml.fn bl (E := C8.E0) C8.pass0 (hr.mono (by decide))) rfl B.len PySem.boot_len (pa_cons (pv 7) pa_nil)) (pe_callB call_len rfl B.len PySem.boot_len (pa_cons (pv 8) pa_nil)) (nomark _)))))) (pss_one (ps_ret pe_bl)) pss_nil)
      (pss_cons (ps_if (pt_cmpR (op_neD hr.units) (C8.pe_mt0 G.mTold hr (by decide) (pv 7)) (pe_callB (call_sortedSP P w rfl rfl rfl hr) rfl B.sorted (by decide +kernel) (pa_cons (pe_callTy (call_setP P w K rfl rfl rfl rfl) rfl B.set (by decide +kernel) (pa_cons (pe_op op_cat (pe_lst (pa_cons pe_str pa_nil)) (C8.pe_c G.cVals hr (by decide) rfl (pa_cons (pv 6) pa_nil))) pa_nil)) pa_nil)) (nomark _)) (pss_one (ps_ret pe_bl)) pss_nil)
      (pss_cons (ps_set (i := 9) scLaw.nd rfl (Or.inl rfl) (pe_ix ix_list (C8.pe_c G.cVals hr (by decide) rfl (pa_cons (pv 6) pa_nil)) (pe_un un_neg pe_int) (fun _ _ => rfl)))
      (pss_cons (ps_if (PW.pt (pw_and (pt_cmpR op_ne (pv 9) pe_str (nomark _)) (pw_and1 (pt_cmpR (op_neO Ge me.at_ me.fn ne TA.ins.hm be (E := C8.E0) C8.pass0 (hr.mono (by decide))) (C8.pe_mt G.mWhere hr (by decide) (pv 7) (pa_cons (pv 9) pa_nil)) (C8.pe_c G.cArea hr (by decide) rfl (pa_cons (pv 6) (pa_cons (pv 9) (pa_cons (pv 5) pa_nil)))) (nomark _))))) (pss_one (ps_ret pe_bl)) pss_nil)
      (pss_cons (ps_if (pt_cmpR op_gt (pe_op op_mul (pv 2) (pv 3)) pe_int (nomark _)) (pss_one (ps_ret pe_bl)) pss_nil)
      (pss_cons (ps_set (i := 10) scLaw.nd rfl (Or.inl rfl) (C8.pe_mt0 G.mTwin hr (by decide) (pv 7)))
      (pss_cons (ps_setLc (i := 11) (own := [("_law_line", 15)]) (g := gName 15) (tt := tYes) rfl scLaw.nd rfl rfl (sw_true rfl rfl rfl (by decide +kernel)) (pi_list (pv 6)) (blkOk_by (N := NLaw) (sc := defScope sLaw) (by decide +kernel))
        (fun _ _ _ _ _ => pg_name (i := 15) scLaw.nd rfl (Or.inl rfl)) (fun _ _ _ _ _ => pts_nil) (fun _ _ _ _ _ => pe_callTy (call_list_ofK K) rfl B.list (by decide +kernel) (pa_cons (pv 15) pa_nil)))
      (pss_cons (ps_for PassesOwn.never rfl (pi_range1 rfl B.range (pa_cons (C8.pe_c G.cDraw hr (by decide) rfl (pa_cons (pv 1) (pa_cons pe_int pa_nil))) pa_nil)) (pg_name (i := 12) scLaw.nd rfl (.inl rfl))
        (pss_cons (ps_set (i := 13) scLaw.nd rfl (Or.inl rfl) (C8.pe_c G.cDraw hr (by decide) rfl (pa_cons (pv 1) (pa_cons (pv 2) pa_nil))))
        (pss_cons (ps_set (i := 14) scLaw.nd rfl (Or.inl rfl) (C8.pe_c G.cDraw hr (by decide) rfl (pa_cons (pv 1) (pa_cons (pv 3) pa_nil))))
        (pss_cons (ps_asg (pe_ix ix_list (pe_lst (pa_cons pe_str (pa_cons pe_str (pa_cons pe_str pa_nil)))) (C8.pe_c G.cDraw hr (by decide) rfl (pa_cons (pv 1) (pa_cons pe_int pa_nil))) (fun _ _ => rfl)) (pg_sub (pe_ix ix_list (pv 11) (pv 13) (fun _ _ => rfl)) (pv 14) set_list (by intro _; rfl)))
        (pss_one (ps_expr (C8.pe_mt G.mFill hr (by decide) (pv 10) (pa_cons (C8.pe_mk G.kA hr (by decide) rfl (pa_cons (pe_lst (pa_cons (C8.pe_mk G.kB hr (by decide) rfl
            (pa_cons (pe_op op_add (pe_ix ix_tup (pv 5) pe_int (fun _ _ => rfl)) (pv 13)) (pa_cons (pe_op op_add (pe_ix ix_tup (pv 5) pe_int (fun _ _ => rfl)) (pv 14)) (pa_cons (pe_op op_add (pe_ix ix_tup (pv 5) pe_int (fun _ _ => rfl)) (pv 13)) (pa_cons (pe_op op_add (pe_ix ix_tup (pv 5) pe_int (fun _ _ => rfl)) (pv 14)) pa_nil))))) pa_nil)) pa_nil))
          (pa_cons (pe_ix ix_list (pe_ix ix_list (pv 11) (pv 13) (fun _ _ => rfl)) (pv 14) (fun _ _ => rfl)) pa_nil)))))))))
      (pss_one (ps_ret (pe_and (C8.pe_c G.cUnl hr (by decide) rfl (pa_cons (pv 7) (pa_cons (pv 10) (pa_cons (pv 6) (pa_cons (pv 11) (pa_cons (pv 5) pa_nil)))))) (pe_one (pe_cmpR (op_eqD hr.units) (C8.pe_c G.cTold hr (by decide) rfl (pa_cons (pv 7) pa_nil)) (pv 8) (nomark _)))))))))))))))))))))), ?_⟩
    -- the well
    refine ⟨_, rfl, a, ns, 0, rfl, hS, hz, fun n0 => ⟨n0, rfl, fun H1 q a1 b1 s1 nq hW1 => ?_⟩⟩
    have hG1 : Same H (delH' H1 q) := del_same s1 nq
    have hS1 : SqL K (delH' H1 q) a (ns.map V.int) := hG1.seq hS
    have sG1 : Same (delH' H1 q) H1 := del_sub
    have nG1 : (delH' H1 q) q = none := del_self
    generalize delH' H1 q = G at hG1 hS1 sG1 nG1
    -- rows
    have shd : SeqAt.shaped (.list (ns.map PyData.int)) = true := intsD_sh ns
    have pick : ∃ m : Int, 1 ≤ m ∧ m ≤ 14 ∧ atI [.int 3, .int 14] (if (!PyData.eqv (.list (ns.map PyData.int)) (.list [])) = true then 1 else 0) = some (V.int m) := by
      cases (!PyData.eqv (.list (ns.map PyData.int)) (.list []))
      · exact ⟨3, by decide, by decide, rfl⟩
      · exact ⟨14, by decide, by decide, rfl⟩
    obtain ⟨m1, hm1, hm1', e1⟩ := pick
    refine ⟨_, rfl, (by show 2 ≤ sizeLine; decide), fun p2 hp2 => ⟨_, rfl, Nat.zero_le _, fun p3 hp3 => ?_⟩⟩
    have s2 : Same H1 (upd (upd H1 p2 (.lst [.int 3, .int 14])) p3 (.lst [])) := (same_new hp2).trans (same_new hp3)
    have hp2' := (same_new (o := .lst []) hp3) _ _ (upd_same (H := H1) (a := p2) (o := .lst [.int 3, .int 14]))
    refine ⟨.list (ns.map PyData.int), .list [], .lst ((sG1.trans s2).seq hS1) (ints_dpAll ns), nil_dp upd_same, shd, nil_sh, .inr ⟨_, rfl, ?_⟩⟩
    refine ⟨p2, _, _, .int m1, rfl, rfl, sql hp2', e1, ?_⟩
    generalize upd (upd H1 p2 (.lst [.int 3, .int 14])) p3 (.lst []) = H2 at s2 hp2'
    refine ⟨q, a1, b1, 0, m1, rfl, hW1.same s2, by decide, hm1, by omega, fun r1 a2 c2 H3 hr1 hr1' hc2 keep3 hW3 _ => ⟨_, _, rfl, rfl, ?_⟩⟩
    have sG3 := sm_keep (sG1.trans s2) nG1 keep3
    -- columns
    refine ⟨_, rfl, (by show 2 ≤ sizeLine; decide), fun p4 hp4 => ⟨_, rfl, Nat.zero_le _, fun p5 hp5 => ?_⟩⟩
    have s4 : Same H3 (upd (upd H3 p4 (.lst [.int 3, .int 14])) p5 (.lst [])) := (same_new hp4).trans (same_new hp5)
    have hp4' := (same_new (o := .lst []) hp5) _ _ (upd_same (H := H3) (a := p4) (o := .lst [.int 3, .int 14]))
    refine ⟨.list (ns.map PyData.int), .list [], .lst ((sG3.trans s4).seq hS1) (ints_dpAll ns), nil_dp upd_same, shd, nil_sh, .inr ⟨_, rfl, ?_⟩⟩
    refine ⟨p4, _, _, .int m1, rfl, rfl, sql hp4', e1, ?_⟩
    generalize upd (upd H3 p4 (.lst [.int 3, .int 14])) p5 (.lst []) = H4 at s4 hp4'
    refine ⟨q, a2, b1, c2, m1, rfl, hW3.same s4, by omega, hm1, by omega, fun r2 a3 c3 H5 hr2 hr2' hc3 keep5 hW5 _ => ⟨_, _, rfl, rfl, ?_⟩⟩
    have sG5 := sm_keep (sG3.trans s4) nG1 keep5
    -- far
    refine ⟨_, _, rfl, rfl, ⟨by decide, by decide, by decide⟩, (by show 2 ≤ sizeLine; decide), fun pf hpf => ?_⟩
    have npf : pf ≠ q := ne_of_none' hpf hW5.1
    refine ⟨_, rfl, q, a3, b1, c3, 2, rfl, hW5.same (same_new hpf), by omega, by decide, by decide, fun r3 a4 c4 H6 hr3 hr3' hc4 keep6 hW6 _ => ?_⟩
    have hpf6 := keep6 _ _ npf upd_same
    have sG6 := sm_keep (sG5.trans (same_new hpf)) nG1 keep6
    obtain ⟨far, hfar1, hfar2, efar⟩ : ∃ far : Int, 1 ≤ far ∧ far ≤ 1000000000 ∧ atI [V.int 4, V.int (10 ^ (9 : Int).toNat)] r3 = some (.int far) := by
      rcases (by omega : r3 = 0 ∨ r3 = 1) with rfl | rfl
      · exact ⟨4, by decide, by decide, rfl⟩
      · exact ⟨1000000000, by decide, by decide, rfl⟩
    refine ⟨pf, _, _, .int far, rfl, rfl, sql hpf6, efar, ?_⟩
    -- place
    refine ⟨_, rfl, _, rfl, q, a4, b1, c4, far, rfl, hW6, by omega, by omega, by omega, fun r4 a5 c5 H7 hr4 hr4' hc5 keep7 hW7 _ => ⟨_, _, rfl, rfl, ?_⟩⟩
    have sG7 := sm_keep sG6 nG1 keep7
    refine ⟨_, rfl, _, rfl, q, a5, b1, c5, far, rfl, hW7, by omega, by omega, by omega, fun r5 a6 c6 H8 hr5 hr5' hc6 keep8 hW8 _ => ⟨_, _, rfl, rfl, (by show 2 ≤ sizeLine; decide), fun pl hpl => ?_⟩⟩
    have sG8 := sm_keep sG7 nG1 keep8
    have npl : pl ≠ q := ne_of_none' hpl hW8.1
    have hn : (1 : Int) ≤ 1 + r4 := by omega
    have hc : (1 : Int) ≤ 1 + r5 := by omega
    have hn2 : 1 + r4 ≤ 2000000000 := by omega
    have hc2' : 1 + r5 ≤ 2000000000 := by omega
    have hpl9 : (upd H8 pl (.tup [.int (1 + r4), .int (1 + r5)])) pl = some (.tup [.int (1 + r4), .int (1 + r5)]) := upd_same
    have sG9 : Same G (upd H8 pl (.tup [.int (1 + r4), .int (1 + r5)])) := sG8.trans (same_new hpl)
    have hW9 : WellAt (upd H8 pl (.tup [.int (1 + r4), .int (1 + r5)])) q a6 b1 c6 := hW8.same (same_new hpl)
    generalize upd H8 pl (.tup [.int (1 + r4), .int (1 + r5)]) = H9 at hpl9 sG9 hW9
    generalize 1 + r4 = n at hn hn2 hpl9
    generalize 1 + r5 = c at hc hc2' hpl9
    have hGp : (delH' H9 q) pl = some (.tup [.int n, .int c]) := by rw [del_ne npl]; exact hpl9
    -- the table
    obtain ⟨r, hr'⟩ : ∃ r : Nat, 1 + r1 = (r : Int) := ⟨(1 + r1).toNat, by omega⟩
    obtain ⟨k', hk'⟩ : ∃ k' : Nat, 1 + r2 = (k' : Int) := ⟨(1 + r2).toNat, by omega⟩
    have hr1x : 1 ≤ r := by omega
    have hr14 : r ≤ 14 := by omega
    have hk1x : 1 ≤ k' := by omega
    have hk14 : k' ≤ 14 := by omega
    refine ⟨_, rfl, _, rfl, _, rfl, q, a6, b1, c6, r, k', ?_, hW9, by omega, hr1x, hr14, hk1x, hk14, fun H10 t a7 c7 tab keep10 hW10 hc7 ht9 hT hR => ?_⟩
    · show [V.ref q, V.int (1 + r1), V.int (1 + r2)] = _
      rw [hr', hk']
    have sG10 : Same (delH' H9 q) (delH' H10 q) := del_same (sm_keep del_sub del_self keep10) del_self
    have hGp10 := sG10 _ _ hGp
    have nG10 : (delH' H10 q) q = none := del_self
    have sub10 : Same (delH' H10 q) H10 := del_sub
    have htab : tab.length = r := hR.rows
    have hcols : ∀ row ∈ tab, row.length ≤ 14 := fun row h => by rw [hR.cols row h]; exact hk14
    have hRW := rectW_of hR
    -- the sheet
    have hfits := M.fits (tab := tab) hn hc (by omega) hcols
    refine ⟨_, rfl, _, rfl, t, pl, tab, n, c, gridR n, gridR c, rfl, TabAt.same' sub10 hT, sub10 _ _ hGp10, hn, hc, by omega, hcols, hR.vals, gridR_len n, gridR_len c, gridR_one n, gridR_one c, hfits, fun H11 x2 dx d s11 hx10 hx11 hd11 => ?_⟩
    have hSh := M.filled hRW hr1x hr14 hk1x hk14 hn hc
    generalize filledH tab n c = h1 at hd11 hSh
    have hF1 := M.fit hSh
    have hlen1 : h1.length ≤ 60 := Nat.le_trans hF1.few (by decide)
    have hfe1 : ∀ p ∈ h1, p.2.length ≤ 600 := fun p hp => Nat.le_trans (hF1.fine p hp).2.2.2 (by decide)
    have hW11 : WellAt H11 q a7 b1 c7 := hW10.same s11
    have hS1' : SheetAt C CA CS H11 (.ref x2) h1 := ⟨x2, dx, d, rfl, hx11, hd11⟩
    -- the pairs
    have hok : ∀ row ∈ tab, ∀ v ∈ row, PyData.strOk v = true := fun row h v hv => strOk13 v (List.mem_append_left _ (hR.vals row h v hv))
    refine ⟨_, rfl, _, rfl, t, pl, tab, n, c, rfl, TabAt.same' (sub10.trans s11) hT, s11 _ _ (sub10 _ _ hGp10), by omega, hcols, hok, M.found hRW, fun H12 pp s12 hpp hP => ?_⟩
    have hpr := M.pairs hSh hRW hn hc
    rw [← hpr] at hP
    have hS12 := hS1'.same s12
    obtain ⟨row0, hrow0⟩ : ∃ row0, tab[0]? = some row0 := ⟨tab[0], List.getElem?_eq_getElem (by omega)⟩
    have hrow0l : row0.length = k' := hR.cols row0 (List.mem_of_getElem? hrow0)
    have sG12 : Same (delH' H10 q) H12 := sub10.trans (s11.trans s12)
    have plen : (CBM.pairsH h1).length ≤ 36000 := by
      have q1 := parts_len hfe1
      have q2 : (CBM.pairsH h1).length = (partsH h1).length := by
        unfold CBM.pairsH
        rw [List.length_mergeSort]
      have : 600 * h1.length ≤ 600 * 60 := Nat.mul_le_mul_left _ hlen1
      omega
    have shp : SeqAt.shaped (.list ((CBM.pairsH h1).map quD)) = true := quD_sh fun p hp => by
      obtain ⟨u, hu, e⟩ := pairs_val hp
      rw [← e]
      exact strOk13 _ (hF1.vals u hu)
    -- cells, told, len
    refine ⟨_, rfl, _, rfl, _, rfl, _, t, pl, h1, tab, row0, n, c, rfl, hS12, TabAt.same' sG12 hT, sG12 _ _ hGp10, hn, hc, hrow0, hlen1, hfe1, M.cells hSh hRW hn hc, M.below hSh hRW hn hc, by rw [hrow0l]; exact M.beside hSh hRW hn hc, fun H13 s13 => ⟨true, rfl, iteF ?_⟩⟩
    have hP13 := lst_mono (R := QuR) (fun s h => QuR.same s h) s13 hP
    have hS13 := hS12.same s13
    refine ⟨_, rfl, _, h1, rfl, hS13, hlen1, hfe1, fun H14 p14 s14 hp14 hP14 => ⟨_, rfl, ?_⟩⟩
    obtain ⟨x14, hx14, hpx14⟩ := hP14
    obtain ⟨x15, hx15, hpx15⟩ := lst_mono (R := QuR) (fun s h => QuR.same s h) s14 hP13
    refine ⟨.list ((CBM.pairsH h1).map quD), .list ((CBM.pairsH h1).map quD), .lst (sql hx14) (dpAll_of (paired_imp (fun _ _ z => quD_dp z) hpx14)), .lst (sql hx15) (dpAll_of (paired_imp (fun _ _ z => quD_dp z) hpx15)), shp, shp, false, by rw [eqv_same shp]; rfl, iteF ?_⟩
    have hS14 := hS13.same s14
    obtain ⟨a14, dx14, d14, e14, ha14, hd14⟩ := id hS14
    cases e14
    refine ⟨_, rfl, x2, _, _, rfl, ha14, _, h1, rfl, hS14, hlen1, hfe1, fun H15 s15 => ⟨_, rfl, by omega, by omega, ?_⟩⟩
    have hx16 := s15 _ _ hx15
    refine ⟨_, rfl, _, x15.length, rfl, Or.inl ⟨_, sql hx16, rfl⟩, rfl, false, ?_, iteF ?_⟩
    · rw [Paired.length hpx15]
      show V.bl (!decide (V.int _ = V.int _)) = .bl false
      rw [decide_eq_true rfl]
      rfl
    -- told
    have sG15 : Same (delH' H10 q) H15 := sG12.trans (s13.trans (s14.trans s15))
    have hT15 := TabAt.same' sG15 hT
    have hS15 := hS14.same s15
    obtain ⟨a16, dx16, d16, e16, ha16, hd16⟩ := id hS15
    cases e16
    have zfl : (valsT tab.flatten).length ≤ 196 := by
      have q1 := flat_len (tab := tab) hcols
      have q2 : tab.length * 14 ≤ 14 * 14 := Nat.mul_le_mul (by omega) (Nat.le_refl _)
      have q3 := nodup_leT (valsT_nd tab.flatten) fun x hx => mem_valsT.mp hx
      omega
    refine ⟨_, rfl, x2, _, _, rfl, ha16, h_no (by decide +kernel), _, h1, rfl, hS15, hlen1, fun H16 p16 ys16 s16 hp16 hpm16 hso16 hy16 => ?_⟩
    obtain rfl := sortT_of hpm16 (sortedS_pw hso16)
    refine ⟨(by show 1 ≤ sizeLine; decide), fun p17 hp17 => ?_⟩
    have s17 : Same H16 (upd H16 p17 (.lst [.str (PySem.Str.ofString "")])) := same_new hp17
    have hp17' : (upd H16 p17 (.lst [.str (PySem.Str.ofString "")])) p17 = some (.lst [.str (PySem.Str.ofString "")]) := upd_same
    refine ⟨_, rfl, t, tab, rfl, TabAt.same' (s16.trans s17) hT15, by omega, hcols, fun H18 p18 s18 hp18 hv18 => ?_⟩
    refine ⟨p17, p18, _, _, rfl, rfl, s18 _ _ hp17', hv18, ?_, fun p19 hp19 => ?_⟩
    · rw [List.length_map]
      exact sz_le (by show 1 + _ ≤ _; omega)
    have s19 := same_new (o := .lst ([V.str (PySem.Str.ofString "")] ++ (valsT tab.flatten).map V.str)) hp19
    refine ⟨p19, (PySem.Str.ofString "" :: valsT tab.flatten).map Sum.inr, rfl, sql (by rw [List.map_map]; exact upd_same), by rw [List.length_map, List.length_cons]; omega, fun p20 hp20 => ⟨p20, addKs [] (PySem.Str.ofString "" :: valsT tab.flatten), rfl, ?_, fun ys21 q21 hpm21 hpw21 hq21 => ?_⟩⟩
    · rw [upd_same]
      exact congrArg (fun l => some (setO P w p20 l)) (addKs_mapS (l := PySem.Str.ofString "" :: valsT tab.flatten) (ks := []))
    obtain rfl := sorted_txts hpm21 hpw21
    have hmt := M.told hSh hRW hn hc
    have hflat : ∀ v ∈ tab.flatten, v ∈ vals13 := fun v hv => by
      obtain ⟨row, hrow, hv⟩ := List.mem_flatten.mp hv
      exact hR.vals row hrow v hv
    have shk : SeqAt.shaped (strsD (sortT (keysH h1))) = true := strsD_sh fun v hv => by
      obtain ⟨u, hu, e⟩ := List.mem_map.mp ((sortT_perm _).mem_iff.mp hv)
      rw [← e]
      exact strOk13 _ (hF1.vals u hu)
    have s20 := same_new (o := setO P w p20 (addKs [] ((PySem.Str.ofString "" :: valsT tab.flatten).map Sum.inr))) hp20
    have s21 := same_new (o := .lst ((valsT (PySem.Str.ofString "" :: valsT tab.flatten)).map fun b : Str => kV (Sum.inr b))) hq21
    have hk16 := s21 _ _ (s20 _ _ (s19 _ _ (s18 _ _ (s17 _ _ hy16))))
    have s22 := s16.trans (s17.trans (s18.trans (s19.trans (s20.trans s21))))
    refine ⟨strsD (sortT (keysH h1)), strsD (valsT (PySem.Str.ofString "" :: valsT tab.flatten)), strsD_dp hk16, strsD_dp upd_same, shk, by rw [← hmt]; exact shk, false, by rw [← hmt, eqv_same shk]; rfl, iteF ?_⟩
    generalize upd (upd (upd H18 p19 (.lst ([V.str (PySem.Str.ofString "")] ++ (valsT tab.flatten).map V.str))) p20 (setO P w p20 (addKs [] ((PySem.Str.ofString "" :: valsT tab.flatten).map Sum.inr)))) q21 (.lst ((valsT (PySem.Str.ofString "" :: valsT tab.flatten)).map fun b : Str => kV (Sum.inr b))) = H22 at s22
    -- the value
    have hT22 := hT15.same' s22
    have hS22 := hS15.same s22
    refine ⟨_, rfl, t, tab, rfl, hT22, by omega, hcols, fun H23 p23 s23 hp23 hv23 => ?_⟩
    have hvne : valsT tab.flatten ≠ [] := fun e => by
      have hz : row0 ≠ [] := fun e => by rw [e] at hrow0l; simp at hrow0l; omega
      obtain ⟨x, hx⟩ := List.exists_mem_of_ne_nil row0 hz
      have : x ∈ valsT tab.flatten := mem_valsT.mpr (List.mem_flatten.mpr ⟨row0, List.mem_of_getElem? hrow0, hx⟩)
      rw [e] at this
      cases this
    obtain ⟨vs', v, hvv⟩ : ∃ vs' v, valsT tab.flatten = vs' ++ [v] := ⟨_, _, (List.dropLast_concat_getLast hvne).symm⟩
    have hvm : v ∈ tab.flatten := mem_valsT.mp (by rw [hvv]; exact List.mem_append_right _ (List.mem_singleton.mpr rfl))
    rw [hvv, List.map_append] at hv23
    refine ⟨_, rfl, p23, _, _, .str v, rfl, rfl, sql hv23, atI_last _ _, ?_⟩
    have hS23 := hS22.same s23
    have s23' := s22.trans s23
    have sG23 := sG15.trans s23'
    have fA : Fine (gridR n) (gridR c) (tabBlks v n c tab) := ⟨gridR_len n, gridR_len c, hfits v, by
      have q1 := tabBlks_len v c (k := 14) (t := tab) (n := n) hcols
      have : tab.length * 14 ≤ 14 * 14 := Nat.mul_le_mul (by omega) (Nat.le_refl _)
      omega⟩
    refine gname_step (tseq_step (wher_test (v := v) rfl (fun hve Q' hQ' => ?_) fun H24 s24 => ?_))
    · obtain ⟨a24, dx24, d24, e24, ha24, hd24⟩ := id hS23
      cases e24
      refine ⟨_, rfl, x2, _, _, rfl, ha24, h_no (by decide +kernel), _, rfl, _, v, h1, rfl, hS23, vals13_ok v (hflat v hvm), fun H24 z s24 hz => ?_⟩
      rw [M.wher hSh hRW hn hc hr14 hk14 v hvm hve] at hz
      refine ⟨_, rfl, _, rfl, _, rfl, t, pl, v, tab, n, c, gridR n, gridR c, rfl, TabAt.same' (sG23.trans s24) hT, (sG23.trans s24) _ _ hGp10, hn, hc, by omega, hcols, fA, fun H25 z2 s25 hz2 => ?_⟩
      have hz' := hz.same s25
      obtain ⟨az, dz, lz, rfl, haz, hlz⟩ := id hz'
      obtain ⟨ay, dy, ly, rfl, hay, hly⟩ := id hz2
      exact ⟨az, ay, _, _, _, _, rfl, rfl, haz, hay, _, _, _, rfl, hz', hz2, fun H26 s26 => ⟨true, rfl, false, rfl, hQ' H26 (s24.trans (s25.trans s26))⟩⟩
    have sG24 := sG23.trans s24
    have hS24 := hS23.same s24
    have hW24 : WellAt H24 q a7 b1 c7 := hW11.same (s12.trans (s13.trans (s14.trans (s15.trans (s23'.trans s24)))))
    have hP24 := lst_mono (R := QuR) (fun s h => QuR.same s h) (s14.trans (s15.trans (s23'.trans s24))) hP13
    have hW12 : WellAt H12 q a7 b1 c7 := hW11.same s12
    clear hpx15 hx15 hx16 hpx14 hx14 hv23 hk16 hS22 hS23 hT22 hT15 hS15 hS14 hS13 hS12 hW1 hW3 hW5 hW6 hW7 hW8 hW9
    refine ⟨_, rfl, _, rfl, _, _, rfl, rfl, ?_, _, _, rfl, rfl, _, rfl, ?_⟩
    · exact .inl ⟨by omega, by omega⟩
    by_cases h60 : (60 : Int) < (1 + r1) * (1 + r2)
    · show if decide ((60 : Int) < (1 + r1) * (1 + r2)) = true then _ else _
      rw [decide_eq_true h60]
      exact iteT (k H24)
    show if decide ((60 : Int) < (1 + r1) * (1 + r2)) = true then _ else _
    rw [decide_eq_false h60]
    refine iteF ?_
    -- the twin
    obtain ⟨a24, dx24, d24, e24, ha24, hd24⟩ := id hS24
    cases e24
    refine ⟨_, rfl, x2, _, _, rfl, ha24, h_no (by decide +kernel), _, h1, rfl, hS24, hF1.nd, hlen1, hfe1, fun H25 x3 dx3 d3 s25 hx3n hx3 hd3 => ?_⟩
    rw [M.hold hSh] at hd3
    -- the base
    have hTB : TabAt (delH' H24 q) t tab := TabAt.same' (del_same sG24 nG10) hT
    have hplB := (del_same sG24 nG10) _ _ hGp10
    have hSB : SheetAt C CA CS (delH' H24 q) (.ref x2) h1 := sheet_delT hS24 (M.full hSh) hW24.1 (fun _ z => nomatch z)
    have npp : pp ≠ q := ne_of_none' hpp hW11.1
    have hPB : LstOf QuR (delH' H24 q) pp (CBM.pairsH h1) := lst_delq hW24.1 npp qu_del hP24
    have nqB : (delH' H24 q) q = none := del_self
    have nx3q : x3 ≠ q := ne_of_none' hx3n hW24.1
    have nx3B : (delH' H24 q) x3 = none := by rw [del_ne nx3q]; exact hx3n
    have sB25 : Same (delH' H24 q) H25 := del_sub.trans s25
    have hW25 := hW24.same s25
    clear hS24 hP24 hW24 ha24 hd24 hW12 hW11 hW10 hP13 hP sG24 sG23 sG15 sG12 hS1' hx11 hd11
    generalize hGB : delH' H24 q = GB at hTB hplB hSB hPB nqB nx3B sB25
    have freeB : ∀ b, H25 b = none → GB b = none := fun b hb => sB25.free hb
    -- the second table
    obtain ⟨xs, ht, hpx⟩ := id hTB
    have lxs := Paired.length hpx
    refine ⟨_, rfl, t, rfl, ⟨_, sql (sB25 _ _ ht)⟩, fun D hD => ?_⟩
    refine lc_list (fun i H => SecI H25 D tab i H) ⟨same_new hD, [], upd_same, by rw [List.take_zero]; exact .nil, .nil⟩ (fun i H _ h => sql (h.1 _ _ (sB25 _ _ ht))) ?_ ?_
    · rintro i x H26 hx ⟨s26, addrs, hD26, hpa, hnd⟩
      obtain ⟨row, hrow, ra, rfl, hra⟩ := paired_getI hpx hx
      refine ⟨rfl, iteT (B := SecI H25 D tab (i + 1) H26) ⟨_, rfl, ra, row.map V.str, rfl, .inl (sql (s26 _ _ (sB25 _ _ hra))), fun l hl => ?_⟩⟩
      have nlD : l ≠ D := ne_of_none' hl hD26
      have s27 := same_new (o := .lst (row.map V.str)) hl
      have la := Paired.length hpa
      rw [List.length_take] at la
      refine ⟨addrs.map V.ref, s27 _ _ hD26, by rw [List.length_map]; exact sz_lt (by omega), sm_mut (s26.trans s27) hD, addrs ++ [l], by rw [upd_same, List.map_append]; rfl, ?_, ?_⟩
      · rw [take_succ' hrow]
        refine paired_snoc' (paired_imp (fun e row' ⟨z1, z2, z3⟩ => ⟨by rw [upd_ne z3]; exact s27 _ _ z1, z2, z3⟩) hpa) ⟨by rw [upd_ne nlD]; exact upd_same, s26.free hl, nlD⟩
      · refine List.nodup_append.mpr ⟨hnd, by simp, fun x hx y hy => ?_⟩
        rw [List.mem_singleton.mp hy]
        rintro rfl
        obtain ⟨i', hi'⟩ := List.getElem?_of_mem hx
        obtain ⟨row', _, z1, _⟩ := paired_getI hpa hi'
        rw [hl] at z1
        cases z1
    · rintro H26 ⟨s26, addrs, hD26, hpa, hnd⟩
      rw [lxs, List.take_of_length_le (Nat.le_refl _)] at hpa
      -- the loop
      have nDB : GB D = none := freeB D hD
      have nDq : D ≠ q := ne_of_none' hD hW25.1
      have hx3D : x3 ≠ D := fun e => by rw [e, hD] at hx3; cases hx3
      have hsec0 : Sec GB q D H26 tab := ⟨addrs, hD26, paired_imp (fun e row ⟨z1, z2, z3⟩ => ⟨z1, freeB e z2, ne_of_none' z2 hW25.1, z3⟩) hpa, hnd⟩
      have hW26 := hW25.same s26
      have hx326 := s26 _ _ hx3
      have hd326 := hd3.same s26
      have sB26 := sB25.trans s26
      clear hx3 hd3 hW25 hpa hD26
      refine ⟨_, rfl, q, a7, b1, c7, 4, rfl, hW26, by omega, by decide, by decide, fun m a8 c8 H27 hm0 hm4 hc8 keep27 hW27 _ => ?_⟩
      obtain ⟨mm, rfl⟩ : ∃ mm : Nat, m = mm := ⟨m.toNat, by omega⟩
      have hd327 : DictAt C CA H27 d3 h1 := (dict_delT hd326 (M.full hSh) hW26.1 (fun _ z => nomatch z)).same (fun b o e => by
        by_cases hb : b = q
        · subst hb; rw [del_self] at e; cases e
        · rw [del_ne hb] at e; exact keep27 b o hb e)
      have sB27 : Same GB H27 := sm_keep sB26 nqB keep27
      have hsec27 : Sec GB q D H27 tab := hsec0.keep keep27 nDq fun e row _ z => z
      have hx327 := keep27 _ _ nx3q hx326
      refine ⟨(mm : Int), rfl, by omega, by omega, ?_⟩
      refine for_range (lo := 0) (n := mm) (fun j σ H => ∃ i12 i13 i14, σ = [some (.ref a), some (.ref q), some (.int (1 + r1)), some (.int (1 + r2)), some (.int far), some (.ref pl), some (.ref t), some (.ref x2), some (.ref pp), some (.str v), some (.ref x3), some (.ref D), i12, i13, i14, none] ∧ LoopI (C := C) (CA := CA) (CS := CS) GB q D x3 dx3 b1 (c8 + 10 * j) Sh r k' n c H) ?_ ?_ ?_
      · exact ⟨_, _, _, rfl, sB27, ⟨a8, c8, hW27, by omega⟩, tab, h1, d3, hsec27, hRW, hx327, hd327, hSh⟩
      · rintro j σ H28 hj ⟨i12, i13, i14, rfl, sB28, ⟨a9, c9, hW28, hc9⟩, sec, h2, d2, hsec28, hRs, hx28, hd28, hSh2⟩
        have hF2 := M.fit hSh2
        refine ⟨_, rfl, _, rfl, q, a9, b1, c9, 1 + r1, rfl, hW28, by omega, by omega, by omega, fun i1 a10 c10 H29 hi0 hi1 hc10 keep29 hW29 _ => ?_⟩
        have sB29 := sm_keep sB28 nqB keep29
        have hsec29 := hsec28.keep keep29 nDq fun e row _ z => z
        have hx29 := keep29 _ _ nx3q hx28
        have hd29 := dict_keep hd28 (M.full hSh2) hW28.1 (fun _ z => nomatch z) keep29
        refine ⟨_, rfl, _, rfl, q, a10, b1, c10, 1 + r2, rfl, hW29, by omega, by omega, by omega, fun i2 a11 c11 H30 hj0 hj1 hc11 keep30 hW30 _ => ?_⟩
        have sB30 := sm_keep sB29 nqB keep30
        have hsec30 := hsec29.keep keep30 nDq fun e row _ z => z
        have hx30 := keep30 _ _ nx3q hx29
        have hd30 := dict_keep hd29 (M.full hSh2) hW29.1 (fun _ z => nomatch z) keep30
        obtain ⟨ii, rfl⟩ : ∃ ii : Nat, i1 = ii := ⟨i1.toNat, by omega⟩
        obtain ⟨jj, rfl⟩ : ∃ jj : Nat, i2 = jj := ⟨i2.toNat, by omega⟩
        have hir : ii < r := by omega
        have hjk : jj < k' := by omega
        clear hsec28 hsec29 hx28 hx29 hd28 hd29 hW28 hW29
        -- the new value
        refine ⟨(by show 3 ≤ sizeLine; decide), fun p31 hp31 => ?_⟩
        have np31 : p31 ≠ q := ne_of_none' hp31 hW30.1
        have s31 : Same H30 (upd H30 p31 (.lst [.str (PySem.Str.ofString "a"), .str (PySem.Str.ofString "new"), .str (PySem.Str.ofString "")])) := same_new hp31
        have hp31' : (upd H30 p31 (.lst [.str (PySem.Str.ofString "a"), .str (PySem.Str.ofString "new"), .str (PySem.Str.ofString "")])) p31 = some (.lst [.str (PySem.Str.ofString "a"), .str (PySem.Str.ofString "new"), .str (PySem.Str.ofString "")]) := upd_same
        refine ⟨_, rfl, q, a11, b1, c11, 3, rfl, hW30.same s31, by omega, by decide, by decide, fun i3 a12 c12 H32 hv0 hv3 hc12 keep32 hW32 _ => ?_⟩
        have hp32 := keep32 _ _ np31 hp31'
        have hW31 := hW30.same s31
        have sB32 := sm_keep (sB30.trans s31) nqB keep32
        have hsec32 := (hsec30.same s31).keep keep32 nDq fun e row _ z => z
        have hx32 := keep32 _ _ nx3q (s31 _ _ hx30)
        have hd32 := dict_keep (hd30.same s31) (M.full hSh2) hW31.1 (fun _ z => nomatch z) keep32
        obtain ⟨u, hu, eu⟩ : ∃ u, u ∈ vals14 ∧ atI [V.str (PySem.Str.ofString "a"), V.str (PySem.Str.ofString "new"), V.str (PySem.Str.ofString "")] i3 = some (.str u) := by
          rcases (by omega : i3 = 0 ∨ i3 = 1 ∨ i3 = 2) with rfl | rfl | rfl
          · exact ⟨PySem.Str.ofString "a", by decide +kernel, rfl⟩
          · exact ⟨PySem.Str.ofString "new", by decide +kernel, rfl⟩
          · exact ⟨PySem.Str.ofString "", by decide +kernel, rfl⟩
        refine ⟨p31, _, _, .str u, rfl, rfl, sql hp32, eu, ?_⟩
        have hsl : sec.length = r := hRs.rows
        obtain ⟨row, hrow⟩ : ∃ row, sec[ii]? = some row := ⟨sec[ii], List.getElem?_eq_getElem (by omega)⟩
        have hrl : row.length = k' := hRs.cols row (List.mem_of_getElem? hrow)
        obtain ⟨ys, e, hDy, hye, he, heB, heq, heD⟩ := hsec32.at hrow
        refine ⟨_, rfl, _, rfl, D, _, _, .ref e, rfl, rfl, sql hDy, atI_nat hye, _, rfl, e, _, (jj : Int), jj, rfl, rfl, he, ixN_nat (by rw [List.length_map]; omega), ?_⟩
        have hsec33 := hsec32.set hrow he ⟨_, hDy, hye⟩ (u := u) (j := jj)
        have hWs := hRs.set (i := ii) (j := jj) hu hir hjk
        rw [← List.map_set]
        have nex : e ≠ x3 := ne_of he hx32 fun z => nomatch z
        have kp33 : ∀ b o, b ≠ e → H32 b = some o → (upd H32 e (.lst ((row.set jj u).map V.str))) b = some o := fun b o hb z => by rw [upd_ne hb]; exact z
        have hx33 := kp33 _ _ nex.symm hx32
        obtain ⟨y0, yr, hy0⟩ : ∃ y0 yr, row = y0 :: yr := by
          cases row with
          | nil => simp at hrl; omega
          | cons y0 yr => exact ⟨y0, yr, rfl⟩
        have hd33 := dict_keep hd32 (M.full hSh2) (x := .str y0) (r := yr.map V.str) (by rw [he, hy0]; rfl) (fun _ z => nomatch z) kp33
        have hW33 : WellAt (upd H32 e (.lst ((row.set jj u).map V.str))) q a12 b1 c12 := ⟨kp33 _ _ heq.symm hW32.1, hW32.2⟩
        have sB33 : Same GB (upd H32 e (.lst ((row.set jj u).map V.str))) := sm_mut sB32 heB
        generalize upd H32 e (.lst ((row.set jj u).map V.str)) = H33 at hsec33 hx33 hd33 hW33 sB33
        clear hsec32 hsec30 hx32 hx30 hd32 hd30 hW32 hW30 hW31 hp31' hp32 kp33 he hDy hye
        -- the fill
        have hpl33 := sB33 _ _ hplB
        have hrow2 : (setTab sec ii jj u)[ii]? = some (row.set jj u) := by
          unfold setTab
          have ed : sec.getD ii [] = row := by rw [List.getD_eq_getElem?_getD, hrow]; rfl
          rw [ed, List.getElem?_set_self (by omega)]
        refine ⟨_, rfl, x3, dx3, _, rfl, hx33, h_no (by decide +kernel), ?_⟩
        refine ⟨_, rfl, pl, _, _, _, rfl, rfl, sqt hpl33, atI_nat (j := 0) rfl, _, rfl, _, _, rfl, rfl, _, rfl, pl, _, _, _, rfl, rfl, sqt hpl33, atI_nat (j := 1) rfl, _, rfl, _, _, rfl, rfl, _, rfl, pl, _, _, _, rfl, rfl, sqt hpl33, atI_nat (j := 0) rfl, _, rfl, _, _, rfl, rfl, _, rfl, pl, _, _, _, rfl, rfl, sqt hpl33, atI_nat (j := 1) rfl, _, rfl, _, _, rfl, rfl, ?_⟩
        refine fun x dx hx hdx _ => ⟨x, dx, cellB (n + ii) (c + jj), rfl, ⟨show 1 ≤ n + (ii : Int) by omega, show 1 ≤ c + (jj : Int) by omega, Int.le_refl _, Int.le_refl _⟩, upd_same, rfl, ?_⟩
        have sx := mk_same (C := C) (fs := bF (n + ii) (c + jj) (some (n + ii)) (some (c + jj))) hx hdx
        have hbx : BlkAt C (upd (upd (upd H33 dx (.own x)) x (.ins C dx [])) x (.ins C dx (bF (n + ii) (c + jj) (some (n + ii)) (some (c + jj))))) (.ref x) (cellB (n + ii) (c + jj)) := ⟨x, dx, rfl, upd_same⟩
        refine ⟨(by show 1 ≤ sizeLine; decide), fun pL hpL => ?_⟩
        have sL := same_new (o := .lst [.ref x]) hpL
        have hbL : Blks C (upd (upd (upd (upd H33 dx (.own x)) x (.ins C dx [])) x (.ins C dx (bF (n + ii) (c + jj) (some (n + ii)) (some (c + jj))))) pL (.lst [.ref x])) pL [cellB (n + ii) (c + jj)] := ⟨_, upd_same, .cons (BlkAt.same sL hbx) .nil⟩
        have s33L := sx.trans sL
        have fc := fine_cell (n := n) (c := c) hn hc (i := ii) (j := jj) (by omega) (by omega)
        refine fun y dy hy hdy _ => ⟨y, dy, .ref pL, _, gridR n, gridR c, rfl, upd_same, .inr ⟨pL, rfl, blks_mk hy hdy hbL⟩, fc, fun H34 l3 _ keep34 hy34 hb34 => ⟨rfl, ?_⟩⟩
        have s34 : Same H33 H34 := s33L.trans (mk_keep hy hdy keep34)
        have hz34 := aInit_at (H := H34) hy34 hb34
        have hsec34 := hsec33.same s34
        have hx34 := s34 _ _ hx33
        have hd34 := hd33.same s34
        have hW34 := hW33.same s34
        obtain ⟨ys, e, hDy, hye, he, heB, heq, heD⟩ := hsec34.at hrow2
        have fA2 := (fine_byK kOr fc (fine_nil (gridR n) (gridR c) (gridR_len n) (gridR_len c))).2.2.2
        refine ⟨_, rfl, _, rfl, D, _, _, .ref e, rfl, rfl, sql hDy, atI_nat hye, _, rfl, e, _, _, .str u, rfl, rfl, sql he, atI_nat (by rw [List.getElem?_map, List.getElem?_set_self (by omega)]; rfl), ?_⟩
        refine ⟨x3, dx3, d2, .ref y, u, h2, areaOf [cellB (n + ii) (c + jj)], gridR n, gridR c, rfl, hx34, hd34, hz34, vals14_ok u hu, fA2, hF2.fine, hF2.nd, Nat.le_trans hF2.few (by decide), fun H35 d5 keep35 hx35 hd35 => ?_⟩
        refine ⟨_, _, _, rfl, sm_keep (sB33.trans s34) nx3B keep35, ⟨a12, c12, ⟨keep35 _ _ nx3q.symm hW34.1, hW34.2⟩, by omega⟩, setTab sec ii jj u, fillH h2 (areaOf [cellB (n + ii) (c + jj)]) u, d5, hsec34.keep keep35 hx3D.symm (fun e row he _ => ne_of he hx34 fun z => nomatch z), hWs, hx35, hd35, M.set hSh2 hRs hn hc hr14 hk14 hir hjk hu⟩
      · rintro σ H28 ⟨i12, i13, i14, rfl, sB28, ⟨a9, c9, hW28, hc9⟩, sec, h2, d2, hsec28, hRs, hx28, hd28, hSh2⟩
        have hrk : r * k' ≤ 60 := by
          rw [hr', hk'] at h60
          have : ((r * k' : Nat) : Int) ≤ 60 := by rw [Int.natCast_mul]; omega
          omega
        refine ⟨_, rfl, _, rfl, _, rfl, _, rfl, _, rfl, .ref x2, .ref x3, t, D, pl, h1, h2, tab, sec, n, c, gridR n, gridR c, rfl, hSB.same sB28, ⟨x3, dx3, d2, rfl, hx28, hd28⟩, hTB.same' sB28, hsec28.tab, sB28 _ _ hplB, hn, hc, M.unl hSh hSh2 hRW hRs hn hc hn2 hc2' hr1x hr14 hk1x hk14 hrk, fun H29 s29 => ?_⟩
        refine ⟨true, rfl, ?_⟩
        have sB29 := sB28.trans s29
        refine ⟨_, rfl, _, h1, rfl, hSB.same sB29, hlen1, hfe1, fun H30 p30 s30 hp30 hP30 => ⟨_, rfl, ?_⟩⟩
        obtain ⟨x30, hx30, hpx30⟩ := hP30
        obtain ⟨x31, hx31, hpx31⟩ := lst_mono (R := QuR) (fun s h => QuR.same s h) (sB29.trans s30) hPB
        refine ⟨.list ((CBM.pairsH h1).map quD), .list ((CBM.pairsH h1).map quD), .lst (sql hx30) (dpAll_of (paired_imp (fun _ _ z => quD_dp z) hpx30)), .lst (sql hx31) (dpAll_of (paired_imp (fun _ _ z => quD_dp z) hpx31)), shp, shp, ?_⟩
        show Q (.bl (PyData.eqv _ _)) _
        rw [eqv_same shp]
        exact k _
end
end CB
end
section
set_option autoImplicit true
/-! what a sheet holds, by its cells -/
namespace CB
open PySem CBM
abbrev e0 : Str := PySem.Str.ofString ""
def isV (val : Int → Int → Txt) (v : Txt) : Int → Int → Bool := fun a b => decide (1 ≤ a ∧ 1 ≤ b ∧ val a b = v)
theorem isV_iff {val : Int → Int → Txt} {v : Txt} {a b : Int} : isV val v a b = true ↔ 1 ≤ a ∧ 1 ≤ b ∧ val a b = v := decide_eq_true_iff
structure Desc (h : Held) (val : Int → Int → Txt) : Prop where
  ne : ∀ p ∈ h, p.2 ≠ []
  form : ∀ p ∈ h, IsForm (isV val p.1) p.2
  key : ∀ a b, 1 ≤ a → 1 ≤ b → val a b ∈ keysH h
theorem Desc.congr {h : Held} {val val' : Int → Int → Txt} (d : Desc h val) (e : ∀ a b, val a b = val' a b) : Desc h val' := by
  have : val = val' := funext fun a => funext fun b => e a b
  rw [← this]
  exact d
theorem put_iff {h : Held} {v : Txt} {X : List Blk} {p : Txt × List Blk} : p ∈ putH h v X ↔ (p ∈ h ∧ p.1 ≠ v) ∨ p = (v, X) := by
  unfold putH
  split
  · rename_i ha
    rw [List.mem_map]
    constructor
    · rintro ⟨q, hq, rfl⟩
      by_cases e : q.1 = v
      · rw [if_pos e, e]
        exact .inr rfl
      · rw [if_neg e]
        exact .inl ⟨hq, e⟩
    · rintro (⟨hp, e⟩ | rfl)
      · exact ⟨p, hp, if_neg e⟩
      · obtain ⟨q, hq, e⟩ := List.any_eq_true.mp ha
        have e' := of_decide_eq_true e
        exact ⟨q, hq, by rw [if_pos e', e']⟩
  · rename_i ha
    rw [List.mem_append, List.mem_singleton]
    constructor
    · rintro (hp | e)
      · exact .inl ⟨hp, fun e => ha (List.any_eq_true.mpr ⟨p, hp, decide_eq_true e⟩)⟩
      · exact .inr e
    · rintro (⟨hp, _⟩ | e)
      · exact .inl hp
      · exact .inr e
theorem key_iff {h : Held} {v : Txt} : v ∈ keysH h ↔ ∃ p ∈ h, p.1 = v := by
  unfold keysH
  rw [List.mem_map]
theorem form_ne {S : Int → Int → Bool} {bs : List Blk} (h : IsForm S bs) {a b : Int} (i : S a b = true) : bs ≠ [] := fun e => by
  have q := h.has a b
  rw [i, e] at q
  cases q
theorem form_mem {S : Int → Int → Bool} {bs : List Blk} (h : IsForm S bs) (hb : bs ≠ []) : ∃ a b, S a b = true := by
  obtain ⟨x, hx⟩ := List.exists_mem_of_ne_nil bs hb
  have q := (h.mem x).mp hx
  exact ⟨x.t, x.l, q.inS q.corner⟩
theorem Desc.fill {rs cs : List Int} {h : Held} {val : Int → Int → Txt} {B : Int → Int → Bool} {bs : List Blk} {v : Txt} (d : Desc h val) (x : HeldFit rs cs h) (hb : IsForm B bs) (hf : Fine rs cs bs) (pos : ∀ a b, B a b = true → 1 ≤ a ∧ 1 ≤ b) :
    Desc (fillH h bs v) (fun a b => if B a b = true then v else val a b) := by
  have z1 := x.r
  have z2 := x.c
  have sub : ∀ q ∈ h, IsForm (fun a b => kSub (isV val q.1 a b) (B a b)) (areaK q.2 bs kSub) := fun q hq =>
    (areaK_form (k := kSub) (x.fine q hq).2.2.1 hf.2.2.1 z1 z2 rfl).congr fun a b => by rw [(d.form q hq).has, hb.has]
  have subF : ∀ q ∈ h, Fine rs cs (areaK q.2 bs kSub) := fun q hq => fine_areaK kSub (x.fine q hq) hf
  -- what stands under v
  have old : ∃ old : List Blk, (getH (h.map fun p => (p.1, areaK p.2 bs kSub)) v).getD (areaOf []) = old ∧ Fits rs cs old ∧ ∀ a b, hasC old a b = kSub (isV val v a b) (B a b) := by
    unfold getH
    cases e : (h.map fun p => (p.1, areaK p.2 bs kSub)).find? (fun p => decide (p.1 = v)) with
    | none =>
      refine ⟨_, rfl, ?_, fun a b => ?_⟩
      · show Fits rs cs (areaOf [])
        rw [areaOf_nil]
        exact fun _ z => nomatch z
      · show hasC (areaOf []) a b = _
        rw [areaOf_nil]
        show false = _
        cases hv : isV val v a b with
        | false => rfl
        | true =>
          obtain ⟨h1, h2, h3⟩ := isV_iff.mp hv
          obtain ⟨q, hq, e2⟩ := key_iff.mp (d.key a b h1 h2)
          have := List.find?_eq_none.mp e (q.1, areaK q.2 bs kSub) (List.mem_map.mpr ⟨q, hq, rfl⟩)
          exact absurd (decide_eq_true (e2.trans h3)) this
    | some p =>
      obtain ⟨q, hq, rfl⟩ := List.mem_map.mp (List.mem_of_find?_eq_some e)
      have e2' := List.find?_some e
      have e2 : q.1 = v := of_decide_eq_true e2'
      refine ⟨_, rfl, (subF q hq).2.2.1, fun a b => ?_⟩
      show hasC (areaK q.2 bs kSub) a b = _
      rw [(sub q hq).has, e2]
  obtain ⟨old, eo, fo, ho⟩ := old
  have newF : IsForm (isV (fun a b => if B a b = true then v else val a b) v) (areaK old bs kOr) :=
    (areaK_form (k := kOr) fo hf.2.2.1 z1 z2 rfl).congr fun a b => by
      rw [ho, hb.has]
      refine bool_ext ?_
      rw [isV_iff]
      cases hB : B a b with
      | true =>
        obtain ⟨p1, p2⟩ := pos a b hB
        simp [kOr, p1, p2]
      | false =>
        have : kOr (kSub (isV val v a b) false) false = isV val v a b := by simp [kOr, kSub]
        rw [this, isV_iff]
        simp
  have oldF : ∀ q ∈ h, q.1 ≠ v → IsForm (isV (fun a b => if B a b = true then v else val a b) q.1) (areaK q.2 bs kSub) := fun q hq ne =>
    (sub q hq).congr fun a b => by
      refine bool_ext ?_
      rw [isV_iff]
      cases hB : B a b with
      | true =>
        simp [kSub]
        exact fun _ _ z => ne z.symm
      | false =>
        have : kSub (isV val q.1 a b) false = isV val q.1 a b := by simp [kSub]
        rw [this, isV_iff]
        simp
  have all : ∀ p ∈ putH (h.map fun p => (p.1, areaK p.2 bs kSub)) v (areaK old bs kOr), IsForm (isV (fun a b => if B a b = true then v else val a b) p.1) p.2 := fun p hp => by
    rcases put_iff.mp hp with ⟨hp, ne⟩ | rfl
    · obtain ⟨q, hq, rfl⟩ := List.mem_map.mp hp
      exact oldF q hq ne
    · exact newF
  unfold fillH
  rw [eo]
  refine ⟨fun p hp => ?_, fun p hp => all p (hold_sub hp), fun a b h1 h2 => ?_⟩
  · have := (List.mem_filter.mp hp).2
    intro e
    rw [e] at this
    cases this
  · have put : ∃ p ∈ putH (h.map fun p => (p.1, areaK p.2 bs kSub)) v (areaK old bs kOr), p.1 = (if B a b = true then v else val a b) := by
      by_cases e : (if B a b = true then v else val a b) = v
      · exact ⟨_, put_iff.mpr (.inr rfl), e.symm⟩
      · have hB : B a b ≠ true := fun z => e (if_pos z)
        rw [if_neg hB] at e ⊢
        obtain ⟨q, hq, e2⟩ := key_iff.mp (d.key a b h1 h2)
        exact ⟨(q.1, areaK q.2 bs kSub), put_iff.mpr (.inl ⟨List.mem_map.mpr ⟨q, hq, rfl⟩, by rw [← e2] at e; exact e⟩), e2⟩
    obtain ⟨p, hp, e⟩ := put
    refine key_iff.mpr ⟨p, List.mem_filter.mpr ⟨hp, ?_⟩, e⟩
    have := form_ne (all p hp) (a := a) (b := b) (isV_iff.mpr ⟨h1, h2, e.symm⟩)
    cases hh : p.2 with
    | nil => exact absurd hh this
    | cons _ _ => rfl
theorem desc_new : Desc newH (fun _ _ => e0) := by
  have f : IsForm (isV (fun _ _ => e0) e0) (areaOf [⟨1, 1, none, none⟩]) := (areaOf_form (rs := [1]) (cs := [1]) fine_new.2.2.1).congr fun a b => by
    refine bool_ext ?_
    rw [isV_iff, hasC_iff]
    constructor
    · rintro ⟨x, hx, i⟩
      rw [List.mem_singleton.mp hx] at i
      obtain ⟨i1, i2⟩ := inB_iff.mp i
      exact ⟨i1.1, i2.1, rfl⟩
    · rintro ⟨h1, h2, _⟩
      exact ⟨_, List.mem_singleton.mpr rfl, inB_iff.mpr ⟨⟨h1, fun _ z => nomatch z⟩, h2, fun _ z => nomatch z⟩⟩
  refine ⟨fun p hp => ?_, fun p hp => ?_, fun _ _ _ _ => key_iff.mpr ⟨_, List.mem_singleton.mpr rfl, rfl⟩⟩
  · rw [List.mem_singleton.mp hp]
    exact form_ne f (a := 1) (b := 1) (isV_iff.mpr ⟨by decide, by decide, rfl⟩)
  · rw [List.mem_singleton.mp hp]
    exact f
/-! ### the table -/
def tabAt (tab : List (List Txt)) (n c a b : Int) : Option Txt := if n ≤ a ∧ c ≤ b then (tab[(a - n).toNat]?).bind fun row => row[(b - c).toNat]? else none
def cellT (tab : List (List Txt)) (n c a b : Int) : Txt := (tabAt tab n c a b).getD e0
theorem tabAt_iff {tab : List (List Txt)} {n c a b : Int} {v : Txt} : tabAt tab n c a b = some v ↔ ∃ (i j : Nat) (row : List Txt), tab[i]? = some row ∧ row[j]? = some v ∧ a = n + i ∧ b = c + j := by
  unfold tabAt
  constructor
  · intro h
    split at h
    · rename_i hc
      obtain ⟨row, h1, h2⟩ := Option.bind_eq_some_iff.mp h
      exact ⟨_, _, row, h1, h2, by omega, by omega⟩
    · cases h
  · rintro ⟨i, j, row, h1, h2, rfl, rfl⟩
    rw [if_pos (by omega)]
    have e1 : (n + (i : Int) - n).toNat = i := by omega
    have e2 : (c + (j : Int) - c).toNat = j := by omega
    rw [e1, e2, h1]
    exact h2
theorem mem_rowBlks {v : Txt} {n : Int} {x : Blk} : ∀ {l : List Txt} {c : Int}, x ∈ rowBlks v n c l ↔ ∃ j : Nat, l[j]? = some v ∧ x = cellB n (c + j)
  | [], c => by simp [rowBlks]
  | y :: l, c => by
    show x ∈ (if y = v then [cellB n c] else []) ++ rowBlks v n (c + 1) l ↔ _
    rw [List.mem_append, mem_rowBlks]
    constructor
    · rintro (h | ⟨j, h1, h2⟩)
      · split at h
        · rename_i e
          exact ⟨0, by rw [e]; rfl, by rw [List.mem_singleton.mp h]; simp⟩
        · cases h
      · exact ⟨j + 1, h1, by rw [h2]; congr 1; omega⟩
    · rintro ⟨j, h1, h2⟩
      cases j with
      | zero =>
        have e : y = v := Option.some.inj h1
        rw [if_pos e, h2]
        exact .inl (List.mem_singleton.mpr (by simp))
      | succ j => exact .inr ⟨j, h1, by rw [h2]; congr 1; omega⟩
theorem mem_tabBlks {v : Txt} {c : Int} {x : Blk} : ∀ {t : List (List Txt)} {n : Int}, x ∈ tabBlks v n c t ↔ ∃ (i j : Nat) (row : List Txt), t[i]? = some row ∧ row[j]? = some v ∧ x = cellB (n + i) (c + j)
  | [], n => by simp [tabBlks]
  | y :: t, n => by
    show x ∈ rowBlks v n c y ++ tabBlks v (n + 1) c t ↔ _
    rw [List.mem_append, mem_rowBlks, mem_tabBlks]
    constructor
    · rintro (⟨j, h1, h2⟩ | ⟨i, j, row, h1, h2, h3⟩)
      · exact ⟨0, j, y, rfl, h1, by rw [h2]; simp⟩
      · exact ⟨i + 1, j, row, h1, h2, by rw [h3]; congr 1; omega⟩
    · rintro ⟨i, j, row, h1, h2, h3⟩
      cases i with
      | zero =>
        cases (Option.some.inj h1 : y = row)
        exact .inl ⟨j, h2, by rw [h3]; simp⟩
      | succ i => exact .inr ⟨i, j, row, h1, h2, by rw [h3]; congr 1; omega⟩
theorem inB_cell {n c a b : Int} : inB (cellB n c) a b = true ↔ a = n ∧ b = c := by
  rw [inB_iff]
  unfold cellB
  constructor
  · rintro ⟨⟨h1, h2⟩, h3, h4⟩
    have := h2 n rfl
    have := h4 c rfl
    have h1' : n ≤ a := h1
    have h3' : c ≤ b := h3
    omega
  · rintro ⟨rfl, rfl⟩
    exact ⟨⟨Int.le_refl _, fun m e => by cases e; exact Int.le_refl _⟩, Int.le_refl _, fun m e => by cases e; exact Int.le_refl _⟩
theorem hasC_tab {tab : List (List Txt)} {n c a b : Int} {v : Txt} : hasC (tabBlks v n c tab) a b = true ↔ tabAt tab n c a b = some v := by
  rw [hasC_iff, tabAt_iff]
  constructor
  · rintro ⟨x, hx, i⟩
    obtain ⟨i', j, row, h1, h2, rfl⟩ := mem_tabBlks.mp hx
    obtain ⟨e1, e2⟩ := inB_cell.mp i
    exact ⟨i', j, row, h1, h2, e1, e2⟩
  · rintro ⟨i, j, row, h1, h2, e1, e2⟩
    exact ⟨_, mem_tabBlks.mpr ⟨i, j, row, h1, h2, rfl⟩, inB_cell.mpr ⟨e1, e2⟩⟩
theorem tab_fits {tab : List (List Txt)} {n c : Int} (hn : 1 ≤ n) (hc : 1 ≤ c) (z : tab.length ≤ 14) (zr : ∀ row ∈ tab, row.length ≤ 14) (v : Txt) : Fits (gridR n) (gridR c) (tabBlks v n c tab) := fun x hx => by
  obtain ⟨i, j, row, h1, h2, rfl⟩ := mem_tabBlks.mp hx
  have q1 := (List.getElem?_eq_some_iff.mp h1).1
  have q2 := (List.getElem?_eq_some_iff.mp h2).1
  have q3 := zr row (List.mem_of_getElem? h1)
  exact ⟨run_cell hn (by omega), run_cell hc (by omega)⟩
theorem tab_fine {tab : List (List Txt)} {n c : Int} (hn : 1 ≤ n) (hc : 1 ≤ c) (z : tab.length ≤ 14) (zr : ∀ row ∈ tab, row.length ≤ 14) (v : Txt) : Fine (gridR n) (gridR c) (tabBlks v n c tab) := ⟨gridR_len n, gridR_len c, tab_fits hn hc z zr v, by
  have q1 := tabBlks_len v c (k := 14) (t := tab) (n := n) zr
  have : tab.length * 14 ≤ 14 * 14 := Nat.mul_le_mul z (Nat.le_refl _)
  omega⟩
theorem tabAt_pos {tab : List (List Txt)} {n c a b : Int} {v : Txt} (hn : 1 ≤ n) (hc : 1 ≤ c) (h : tabAt tab n c a b = some v) : 1 ≤ a ∧ 1 ≤ b := by
  obtain ⟨i, j, row, _, _, rfl, rfl⟩ := tabAt_iff.mp h
  omega
def valF (tab : List (List Txt)) (n c : Int) (l : List Txt) (val : Int → Int → Txt) (a b : Int) : Txt := match tabAt tab n c a b with
  | some x => if x ∈ l then x else val a b
  | none => val a b
theorem fold_desc {tab : List (List Txt)} {n c : Int} (hn : 1 ≤ n) (hc : 1 ≤ c) (z : tab.length ≤ 14) (zr : ∀ row ∈ tab, row.length ≤ 14) : ∀ (l : List Txt) (h : Held) (val : Int → Int → Txt), (∀ v ∈ l, v ∈ vals14) → HeldFit (gridR n) (gridR c) h → Desc h val →
    HeldFit (gridR n) (gridR c) (l.foldl (fun h v => fillH h (areaOf (tabBlks v n c tab)) v) h) ∧ Desc (l.foldl (fun h v => fillH h (areaOf (tabBlks v n c tab)) v) h) (valF tab n c l val)
  | [], h, val, _, x, d => ⟨x, d.congr fun a b => by unfold valF; split <;> simp⟩
  | v :: l, h, val, hv, x, d => by
    have fA := tab_fine hn hc z zr v
    have fA2 := (fine_byK kOr fA (fine_nil (gridR n) (gridR c) (gridR_len n) (gridR_len c))).2.2.2
    have frm := areaOf_form fA.2.2.1
    have x1 := x.fill fA2 (hv v (List.mem_cons_self ..))
    have d1 := d.fill (v := v) x frm fA2 fun a b h => tabAt_pos hn hc (hasC_tab.mp h)
    obtain ⟨x2, d2⟩ := fold_desc hn hc z zr l _ _ (fun u hu => hv u (List.mem_cons_of_mem _ hu)) x1 d1
    refine ⟨x2, d2.congr fun a b => ?_⟩
    unfold valF
    cases e : tabAt tab n c a b with
    | none =>
      have : ¬ hasC (tabBlks v n c tab) a b = true := fun q => by
        rw [hasC_tab, e] at q
        cases q
      show (if hasC (tabBlks v n c tab) a b = true then v else val a b) = val a b
      rw [if_neg this]
    | some y =>
      have q : hasC (tabBlks v n c tab) a b = true ↔ y = v := by
        rw [hasC_tab, e]
        exact ⟨fun z => Option.some.inj z, fun z => by rw [z]⟩
      show (if y ∈ l then y else if hasC (tabBlks v n c tab) a b = true then v else val a b) = if y ∈ v :: l then y else val a b
      by_cases e1 : y ∈ l
      · rw [if_pos e1, if_pos (List.mem_cons_of_mem _ e1)]
      · rw [if_neg e1]
        by_cases e2 : y = v
        · rw [if_pos (q.mpr e2), if_pos (by rw [e2]; exact List.mem_cons_self ..), e2]
        · rw [if_neg (fun z => e2 (q.mp z)), if_neg fun z => by
            rcases List.mem_cons.mp z with z | z
            · exact e2 z
            · exact e1 z]
end CB
end
section
set_option autoImplicit true
/-! the easy parts of MathL -/
namespace CB
open PySem CBM
def ShT (h : Held) (tab : List (List Str)) (n c : Int) : Prop := HeldFit (gridR n) (gridR c) h ∧ Desc h (cellT tab n c)
theorem flat_of {tab : List (List Txt)} {n c a b : Int} {x : Txt} (h : tabAt tab n c a b = some x) : x ∈ tab.flatten := by
  obtain ⟨i, j, row, h1, h2, _, _⟩ := tabAt_iff.mp h
  exact List.mem_flatten.mpr ⟨row, List.mem_of_getElem? h1, List.mem_of_getElem? h2⟩
theorem of_flat {tab : List (List Txt)} (n c : Int) {x : Txt} (h : x ∈ tab.flatten) : ∃ a b, tabAt tab n c a b = some x := by
  obtain ⟨row, h1, h2⟩ := List.mem_flatten.mp h
  obtain ⟨i, hi⟩ := List.getElem?_of_mem h1
  obtain ⟨j, hj⟩ := List.getElem?_of_mem h2
  exact ⟨n + i, c + j, tabAt_iff.mpr ⟨i, j, row, hi, hj, rfl, rfl⟩⟩
theorem flat14 {tab : List (List Txt)} {r k : Nat} (h : RectW tab r k) : ∀ v ∈ tab.flatten, v ∈ vals14 := fun v hv => by
  obtain ⟨row, h1, h2⟩ := List.mem_flatten.mp hv
  exact h.vals row h1 v h2
theorem sh_filled {tab : List (List Txt)} {r k : Nat} {n c : Int} (h : RectW tab r k) (hr : r ≤ 14) (hk : k ≤ 14) (hn : 1 ≤ n) (hc : 1 ≤ c) : ShT (filledH tab n c) tab n c := by
  have q := fold_desc (tab := tab) hn hc (by rw [h.rows]; exact hr) (fun row hrow => by rw [h.cols row hrow]; exact hk) (valsT tab.flatten) newH _ (fun v hv => flat14 h v (mem_valsT.mp hv)) (heldFit_new (gridR_len n) (gridR_len c) (gridR_one n) (gridR_one c)) desc_new
  refine ⟨q.1, q.2.congr fun a b => ?_⟩
  unfold valF cellT
  cases e : tabAt tab n c a b with
  | none => rfl
  | some x =>
    show (if x ∈ valsT tab.flatten then x else e0) = x
    rw [if_pos (mem_valsT.mpr (flat_of e))]
theorem vals_head {h : Held} {val : Int → Int → Txt} (d : Desc h val) {a b : Int} (ha : 1 ≤ a) (hb : 1 ≤ b) : ∃ q, valsAt h a b = val a b :: q := by
  have all : ∀ p ∈ h, hasC p.2 a b = true → p.1 = val a b := fun p hp e => by
    rw [(d.form p hp).has] at e
    exact (isV_iff.mp e).2.2.symm
  obtain ⟨p, hp, e⟩ := key_iff.mp (d.key a b ha hb)
  have hm : p ∈ h.filter fun p => hasC p.2 a b := List.mem_filter.mpr ⟨hp, by rw [(d.form p hp).has]; exact isV_iff.mpr ⟨ha, hb, e.symm⟩⟩
  unfold valsAt
  cases hl : h.filter fun p => hasC p.2 a b with
  | nil =>
    rw [hl] at hm
    cases hm
  | cons p' l =>
    have hp' : p' ∈ h.filter fun p => hasC p.2 a b := by rw [hl]; exact List.mem_cons_self ..
    obtain ⟨q1, q2⟩ := List.mem_filter.mp hp'
    exact ⟨l.map (·.1), by rw [List.map_cons, all p' q1 q2]⟩
theorem cellT_out {tab : List (List Txt)} {n c a b : Int} (h : ∀ v, tabAt tab n c a b ≠ some v) : cellT tab n c a b = e0 := by
  unfold cellT
  cases e : tabAt tab n c a b with
  | none => rfl
  | some v => exact absurd e (h v)
theorem cellT_in {tab : List (List Txt)} {n c a b : Int} {v : Txt} (h : tabAt tab n c a b = some v) : cellT tab n c a b = v := by
  unfold cellT
  rw [h]
  rfl
theorem cell_below {tab : List (List Txt)} {n c b : Int} : cellT tab n c (n + tab.length) b = e0 := cellT_out fun v e => by
  obtain ⟨i, j, row, h1, _, e1, _⟩ := tabAt_iff.mp e
  have := (List.getElem?_eq_some_iff.mp h1).1
  omega
theorem cell_beside {tab : List (List Txt)} {r k : Nat} (h : RectW tab r k) {n c a : Int} : cellT tab n c a (c + k) = e0 := cellT_out fun v e => by
  obtain ⟨i, j, row, h1, h2, _, e1⟩ := tabAt_iff.mp e
  have q := (List.getElem?_eq_some_iff.mp h2).1
  have := h.cols row (List.mem_of_getElem? h1)
  omega
theorem sh_told {h : Held} {tab : List (List Txt)} {n c : Int} (s : ShT h tab n c) (hn : 1 ≤ n) (hc : 1 ≤ c) : sortT (keysH h) = valsT (PySem.Str.ofString "" :: valsT tab.flatten) := by
  refine valsT_of (sortT_pw _) ((sortT_perm _).nodup_iff.mpr s.1.nd) fun x => ?_
  rw [(sortT_perm _).mem_iff, List.mem_cons, mem_valsT]
  constructor
  · intro hx
    obtain ⟨p, hp, rfl⟩ := key_iff.mp hx
    obtain ⟨a, b, e⟩ := form_mem (s.2.form p hp) (s.2.ne p hp)
    obtain ⟨_, _, e⟩ := isV_iff.mp e
    unfold cellT at e
    cases e2 : tabAt tab n c a b with
    | none =>
      rw [e2] at e
      exact .inl e.symm
    | some v =>
      rw [e2] at e
      have e' : v = p.1 := e
      rw [← e']
      exact .inr (flat_of e2)
  · rintro (rfl | hx)
    · have := s.2.key (n + tab.length) c (by omega) hc
      rw [cell_below] at this
      exact this
    · obtain ⟨a, b, e⟩ := of_flat n c hx
      have p := tabAt_pos hn hc e
      have := s.2.key a b p.1 p.2
      rw [cellT_in e] at this
      exact this
theorem get_form {h : Held} {val : Int → Int → Txt} (d : Desc h val) (v : Txt) : IsForm (isV val v) ((getH h v).getD []) := by
  unfold getH
  cases e : h.find? (fun p => decide (p.1 = v)) with
  | some p =>
    have e2 := List.find?_some e
    have e3 : p.1 = v := of_decide_eq_true e2
    have := d.form p (List.mem_of_find?_eq_some e)
    rw [e3] at this
    exact this
  | none =>
    have no : ∀ a b, isV val v a b = false := fun a b => by
      cases hv : isV val v a b with
      | false => rfl
      | true =>
        obtain ⟨h1, h2, h3⟩ := isV_iff.mp hv
        obtain ⟨q, hq, e2⟩ := key_iff.mp (d.key a b h1 h2)
        exact absurd (decide_eq_true (e2.trans h3)) (List.find?_eq_none.mp e q hq)
    refine ⟨List.Pairwise.nil, fun b => ⟨(fun z => nomatch z), fun z => ?_⟩, fun a b => by rw [no]; rfl⟩
    have := z.inS z.corner
    rw [no] at this
    cases this
theorem cell_is {tab : List (List Txt)} {n c a b : Int} {v : Txt} (hv : v ≠ e0) : cellT tab n c a b = v ↔ tabAt tab n c a b = some v := by
  unfold cellT
  cases e : tabAt tab n c a b with
  | none => exact ⟨fun z => absurd z.symm hv, fun z => nomatch z⟩
  | some x => exact ⟨fun z => by rw [show x = v from z], fun z => Option.some.inj z⟩
theorem sh_wher {h : Held} {tab : List (List Txt)} {r k : Nat} {n c : Int} (s : ShT h tab n c) (hR : RectW tab r k) (hn : 1 ≤ n) (hc : 1 ≤ c) (hr : r ≤ 14) (hk : k ≤ 14) (v : Txt) (hv : v ≠ e0) : (getH h v).getD [] = areaOf (tabBlks v n c tab) := by
  refine (get_form s.2 v).unique ((areaOf_form (tab_fits hn hc (by rw [hR.rows]; exact hr) (fun row hrow => by rw [hR.cols row hrow]; exact hk) v)).congr fun a b => bool_ext ?_)
  rw [hasC_tab, isV_iff, cell_is hv]
  exact ⟨fun z => ⟨(tabAt_pos hn hc z).1, (tabAt_pos hn hc z).2, z⟩, fun z => z.2.2⟩
theorem sh_hold {h : Held} {val : Int → Int → Txt} (d : Desc h val) : holdH h = h := List.filter_eq_self.mpr fun p hp => by
  have := d.ne p hp
  cases e : p.2 with
  | nil => exact absurd e this
  | cons _ _ => rfl
theorem tabAt_set {tab : List (List Txt)} {r k : Nat} (hR : RectW tab r k) {i j : Nat} (hi : i < r) (hj : j < k) {v : Txt} {n c a b : Int} : tabAt (setTab tab i j v) n c a b = if a = n + i ∧ b = c + j then some v else tabAt tab n c a b := by
  have hl := hR.rows
  obtain ⟨row, hrow⟩ : ∃ row, tab[i]? = some row := ⟨tab[i], List.getElem?_eq_getElem (by omega)⟩
  have hrl := hR.cols row (List.mem_of_getElem? hrow)
  have ed : tab.getD i [] = row := by rw [List.getD_eq_getElem?_getD, hrow]; rfl
  unfold tabAt setTab
  rw [ed]
  by_cases hc : n ≤ a ∧ c ≤ b
  · rw [if_pos hc, if_pos hc, List.getElem?_set]
    by_cases e1 : i = (a - n).toNat
    · rw [if_pos e1, if_pos (by omega), ← e1, hrow]
      show (row.set j v)[(b - c).toNat]? = if _ then _ else row[(b - c).toNat]?
      rw [List.getElem?_set]
      by_cases e2 : j = (b - c).toNat
      · rw [if_pos e2, if_pos (by omega), if_pos (by omega)]
      · rw [if_neg e2, if_neg (by omega)]
    · rw [if_neg e1, if_neg (by omega)]
  · rw [if_neg hc, if_neg hc, if_neg (by omega)]
theorem sh_set {h : Held} {tab : List (List Txt)} {r k i j : Nat} {n c : Int} {v : Txt} (s : ShT h tab n c) (hR : RectW tab r k) (hn : 1 ≤ n) (hc : 1 ≤ c) (hr : r ≤ 14) (hk : k ≤ 14) (hi : i < r) (hj : j < k) (hv : v ∈ vals14) : ShT (fillH h (areaOf [cellB (n + i) (c + j)]) v) (setTab tab i j v) n c := by
  have fc := fine_cell (n := n) (c := c) hn hc (i := i) (j := j) (by omega) (by omega)
  have fA2 := (fine_byK kOr fc (fine_nil (gridR n) (gridR c) (gridR_len n) (gridR_len c))).2.2.2
  have one : ∀ a b, hasC [cellB (n + i) (c + j)] a b = true ↔ a = n + i ∧ b = c + j := fun a b => by
    rw [hasC_iff]
    constructor
    · rintro ⟨x, hx, i⟩
      rw [List.mem_singleton.mp hx] at i
      exact inB_cell.mp i
    · intro e
      exact ⟨_, List.mem_singleton.mpr rfl, inB_cell.mpr e⟩
  refine ⟨s.1.fill fA2 hv, (s.2.fill (v := v) s.1 (areaOf_form fc.2.2.1) fA2 fun a b h => ?_).congr fun a b => ?_⟩
  · have := (one a b).mp h
    omega
  · show (if hasC [cellB (n + i) (c + j)] a b = true then v else cellT tab n c a b) = cellT (setTab tab i j v) n c a b
    unfold cellT
    rw [tabAt_set hR hi hj]
    by_cases e : a = n + i ∧ b = c + j
    · rw [if_pos ((one a b).mpr e), if_pos e]
      rfl
    · rw [if_neg (fun z => e ((one a b).mp z)), if_neg e]
end CB
end
section
set_option autoImplicit true
/-! the law's runs and pairs are the forms of the values -/
namespace CB
open PySem CBM
def rtX (q : RunT) : Txt × Int × OI := (q.2.2, q.1, some q.2.1)
theorem rtX_inj {a b : RunT} (h : rtX a = rtX b) : a = b := by
  obtain ⟨i, j, v⟩ := a
  obtain ⟨i', j', v'⟩ := b
  unfold rtX at h
  injection h with h1 h2
  injection h2 with h2 h3
  injection h3 with h3
  subst h1 h2 h3
  rfl
theorem lr_X (l : List RunT) (j : Int) (v : Txt) : (lrStep l j v).map rtX = withX (l.map rtX) (v, j, some j) := by
  rcases List.eq_nil_or_concat l with rfl | ⟨l, q, rfl⟩
  · rfl
  · rw [List.concat_eq_append, lrStep_snoc, List.map_append, List.map_singleton, withX_snoc]
    by_cases h : q.2.1 = j - 1 ∧ q.2.2 = v
    · rw [if_pos h, if_pos ⟨h.2, by show some q.2.1 = _; rw [h.1]⟩, List.map_append]
      rfl
    · rw [if_neg h, if_neg fun z => h ⟨Option.some.inj z.2, z.1⟩, List.map_append, List.map_append]
      rfl
def bandsL : List Txt → Int → List (Txt × Int × OI)
  | [], _ => []
  | v :: r, j => (v, j, some j) :: bandsL r (j + 1)
theorem lrFold_X : ∀ (l : List Txt) (j : Int) (f : List RunT), (lrFold l j f).map rtX = (bandsL l j).foldl withX (f.map rtX)
  | [], _, _ => rfl
  | v :: r, j, f => by
    show (lrFold r (j + 1) (lrStep f j v)).map rtX = (bandsL r (j + 1)).foldl withX (withX (f.map rtX) (v, j, some j))
    rw [lrFold_X, lr_X]
theorem mem_bandsL {q : Txt × Int × OI} : ∀ {l : List Txt} {j : Int}, q ∈ bandsL l j ↔ ∃ i : Nat, l[i]? = some q.1 ∧ q.2.1 = j + i ∧ q.2.2 = some (j + i)
  | [], j => by simp [bandsL]
  | v :: r, j => by
    show q ∈ (v, j, some j) :: bandsL r (j + 1) ↔ _
    rw [List.mem_cons, mem_bandsL]
    constructor
    · rintro (rfl | ⟨i, h1, h2, h3⟩)
      · exact ⟨0, rfl, by simp, by simp⟩
      · exact ⟨i + 1, h1, by rw [h2]; omega, by rw [h3]; congr 1; omega⟩
    · rintro ⟨i, h1, h2, h3⟩
      cases i with
      | zero =>
        obtain ⟨x, y, z⟩ := q
        have e1 : v = x := Option.some.inj h1
        simp at h2 h3
        exact .inl (by rw [e1, h2, h3])
      | succ i => exact .inr ⟨i, h1, by rw [h2]; omega, by rw [h3]; congr 1; omega⟩
theorem bandsL_next : ∀ (l : List Txt) (j : Int), (bandsL l j).Pairwise fun a b => ∃ m, a.2.2 = some m ∧ m < b.2.1
  | [], _ => List.Pairwise.nil
  | v :: r, j => List.pairwise_cons.mpr ⟨fun b hb => by
      obtain ⟨i, _, h2, _⟩ := mem_bandsL.mp hb
      exact ⟨j, rfl, by omega⟩, bandsL_next r (j + 1)⟩
theorem bandsL_ok (l : List Txt) : GsOk (-1) ((bandsL l 0).map oneB) ∧ ∀ v n, gR ((bandsL l 0).map oneB) v n ↔ ∃ i : Nat, l[i]? = some v ∧ n = i := by
  refine ⟨⟨fun g hg => ?_, fun g hg m e => ?_, List.pairwise_map.mpr (bandsL_next l 0)⟩, fun v n => ⟨?_, ?_⟩⟩
  · obtain ⟨q, hq, rfl⟩ := List.mem_map.mp hg
    obtain ⟨i, _, h2, _⟩ := mem_bandsL.mp hq
    show -1 < q.2.1
    omega
  · obtain ⟨q, hq, rfl⟩ := List.mem_map.mp hg
    obtain ⟨i, _, h2, h3⟩ := mem_bandsL.mp hq
    have e' : q.2.2 = some m := e
    rw [h3] at e'
    have := Option.some.inj e'
    show q.2.1 ≤ m
    omega
  · rintro ⟨g, hg, ⟨h1, h2⟩, h3⟩
    obtain ⟨q, hq, rfl⟩ := List.mem_map.mp hg
    obtain ⟨i, z1, z2, z3⟩ := mem_bandsL.mp hq
    have e : v = q.1 := List.mem_singleton.mp h3
    have := h2 _ z3
    have h1' : q.2.1 ≤ n := h1
    exact ⟨i, by rw [e]; exact z1, by omega⟩
  · rintro ⟨i, h1, rfl⟩
    exact ⟨oneB (v, (i : Int), some (i : Int)), List.mem_map.mpr ⟨_, mem_bandsL.mpr ⟨i, h1, by simp, by simp⟩, rfl⟩, ⟨Int.le_refl _, fun m e => by cases e; exact Int.le_refl _⟩, List.mem_singleton.mpr rfl⟩
theorem lrFold_iff {l : List Txt} {j1 j2 : Int} {v : Txt} : (j1, j2, v) ∈ lrFold l 0 [] ↔ MaxI (fun m => ∃ i : Nat, l[i]? = some v ∧ m = i) j1 (some j2) := by
  obtain ⟨ok, hR'⟩ := bandsL_ok l
  have hR := hR' v
  have out := (gFold_out ok).1 (v, j1, some j2)
  have e1 := gFold_one (l := bandsL l 0) (st := ⟨[], [], some (-1)⟩) (.inl ⟨rfl, rfl⟩)
  have e2 : gOut (((bandsL l 0).map oneB).foldl gStep ⟨[], [], some (-1)⟩) = (lrFold l 0 []).map rtX := by
    rw [e1, lrFold_X]
    rfl
  rw [e2] at out
  have e3 : (v, j1, some j2) ∈ (lrFold l 0 []).map rtX ↔ (j1, j2, v) ∈ lrFold l 0 [] := by
    rw [List.mem_map]
    constructor
    · rintro ⟨q, hq, e⟩
      have : q = (j1, j2, v) := rtX_inj e
      rw [← this]
      exact hq
    · intro h
      exact ⟨_, h, rfl⟩
  rw [← e3, out]
  exact ⟨fun h => h.congr hR, fun h => h.congr fun n => (hR n).symm⟩
theorem lawRuns_iff {l : List Txt} {j1 j2 : Int} {v : Txt} : (j1, j2, v) ∈ lawRuns l ↔ v ≠ e0 ∧ MaxI (fun m => ∃ i : Nat, l[i]? = some v ∧ m = i) j1 (some j2) := by
  unfold lawRuns
  rw [List.mem_filter, lrFold_iff]
  constructor
  · rintro ⟨h1, h2⟩
    exact ⟨by simpa using h2, h1⟩
  · rintro ⟨h1, h2⟩
    exact ⟨h2, by simpa using h1⟩
theorem maxI_shift {R : Int → Prop} {c t m : Int} : MaxI (fun x => R (x - c)) (c + t) (some (c + m)) ↔ MaxI R t (some m) := by
  constructor
  · intro h
    refine ⟨fun k e => ?_, fun x h1 h2 => ?_, fun z => h.lo ?_, fun k e z => h.hi _ rfl ?_⟩
    · have := h.ne _ rfl
      cases e
      omega
    · have := h.all (x + c) (by omega) fun k e => by cases e; have := h2 m rfl; omega
      have e : x + c - c = x := by omega
      rw [e] at this
      exact this
    · show R (c + t - 1 - c)
      have e : c + t - 1 - c = t - 1 := by omega
      rw [e]
      exact z
    · cases e
      show R (c + m + 1 - c)
      have e : c + m + 1 - c = m + 1 := by omega
      rw [e]
      exact z
  · intro h
    refine ⟨fun k e => ?_, fun x h1 h2 => ?_, fun z => h.lo ?_, fun k e z => h.hi _ rfl ?_⟩
    · have := h.ne _ rfl
      cases e
      omega
    · exact h.all (x - c) (by omega) fun k e => by cases e; have := h2 _ rfl; omega
    · have z' : R (c + t - 1 - c) := z
      have e : c + t - 1 - c = t - 1 := by omega
      rw [e] at z'
      exact z'
    · cases e
      have z' : R (c + m + 1 - c) := z
      have e : c + m + 1 - c = m + 1 := by omega
      rw [e] at z'
      exact z'
/-- a run of the law in its row -/
theorem run_iff {tab : List (List Txt)} {n c x j1 j2 : Int} {v : Txt} (hn : 1 ≤ n) (hc : 1 ≤ c) (hv : v ≠ e0) : IsRun (isV (cellT tab n c) v) x (c + j1, some (c + j2)) ↔ ∃ (i : Nat) (row : List Txt), tab[i]? = some row ∧ x - n = i ∧ (j1, j2, v) ∈ lawRuns row := by
  have cell : ∀ b, isV (cellT tab n c) v x b = true ↔ tabAt tab n c x b = some v := fun b => by
    rw [isV_iff, cell_is hv]
    exact ⟨fun z => z.2.2, fun z => ⟨(tabAt_pos hn hc z).1, (tabAt_pos hn hc z).2, z⟩⟩
  have at_ : ∀ (i : Nat) (row : List Txt), tab[i]? = some row → x - n = i → ∀ b, isV (cellT tab n c) v x b = true ↔ ∃ j : Nat, row[j]? = some v ∧ b - c = j := fun i row h1 h2 b => by
    rw [cell, tabAt_iff]
    constructor
    · rintro ⟨i', j, row', z1, z2, z3, z4⟩
      have : i' = i := by omega
      subst this
      rw [h1] at z1
      cases z1
      exact ⟨j, z2, by omega⟩
    · rintro ⟨j, z1, z2⟩
      exact ⟨i, j, row, h1, z1, by omega, by omega⟩
  constructor
  · intro h
    have q := h.at
    rw [cell, tabAt_iff] at q
    obtain ⟨i, j, row, z1, z2, z3, z4⟩ := q
    refine ⟨i, row, z1, by omega, lawRuns_iff.mpr ⟨hv, maxI_shift.mp (h.congr (at_ i row z1 (by omega)))⟩⟩
  · rintro ⟨i, row, h1, h2, h3⟩
    exact ((maxI_shift (R := fun m => ∃ j : Nat, row[j]? = some v ∧ m = j)).mpr (lawRuns_iff.mp h3).2).congr fun b => (at_ i row h1 h2 b).symm
end CB
end
section
set_option autoImplicit true
/-! the law's pairs -/
namespace CB
open PySem CBM
def mkQ (n c : Int) (q : RunT × Int × OI) : Blk × Txt := (⟨n + q.2.1, c + q.1.1, some (n + q.2.2.getD 0), some (c + q.1.2.1)⟩, q.1.2.2)
def lRel (n c i : Int) (st : LSt) (st' : GSt RunT) : Prop := st.found = st'.found.map (mkQ n c) ∧ st.begun = st'.begun ∧ st'.behind = some (i - 1)
theorem lRel_step {n c i : Int} {st : LSt} {st' : GSt RunT} (h : lRel n c i st st') (rs : List RunT) : lRel n c (i + 1) (lpStep n c st i rs) (gStep st' ⟨i, some i, rs⟩) := by
  obtain ⟨h1, h2, h3⟩ := h
  have e : (fun p : RunT × Int => decide (p.1 ∉ rs)) = gEnds (⟨i, some i, rs⟩ : GB RunT) st'.behind := funext fun p => by
    unfold gEnds
    rw [h3]
    have : decide (some (i - 1) ≠ some ((⟨i, some i, rs⟩ : GB RunT).f - 1)) = false := by simp
    rw [this, Bool.or_false]
    exact dec_irrel _ _
  refine ⟨?_, ?_, by show some i = some (i + 1 - 1); congr 1; omega⟩
  · unfold lpStep gStep
    rw [h1, h2, e]
    show _ ++ _ = List.map _ (_ ++ _)
    rw [List.map_append, List.map_map]
    congr 1
    refine List.map_congr_left fun p _ => ?_
    unfold mkT mkQ
    rw [h3]
    show (_, _) = (_, _)
    congr 2
    show some (n + i - 1) = some (n + (i - 1))
    congr 1
    omega
  · unfold lpStep gStep
    rw [h2]
    have e2 : (fun p : RunT × Int => !decide (p.1 ∉ rs)) = fun p => !gEnds (⟨i, some i, rs⟩ : GB RunT) st'.behind p := funext fun p => congrArg (!·) (congrFun e p)
    rw [e2]
    rfl
def bandsR : List (List Txt) → Int → List (GB RunT)
  | [], _ => []
  | row :: t, i => ⟨i, some i, lawRuns row⟩ :: bandsR t (i + 1)
theorem lRel_fold {n c : Int} : ∀ {l : List (List Txt)} {i : Int} {st : LSt} {st' : GSt RunT}, lRel n c i st st' → lRel n c (i + l.length) (lpFold n c l i st) ((bandsR l i).foldl gStep st')
  | [], i, st, st', h => by
    have e : i + (([] : List (List Txt)).length : Int) = i := by simp
    rw [e]
    exact h
  | row :: t, i, st, st', h => by
    have q := lRel_fold (l := t) (lRel_step h (lawRuns row))
    have e : i + 1 + (t.length : Int) = i + ((row :: t).length : Int) := by rw [List.length_cons]; omega
    rw [e] at q
    exact q
theorem mem_bandsR {g : GB RunT} : ∀ {l : List (List Txt)} {j : Int}, g ∈ bandsR l j ↔ ∃ (i : Nat) (row : List Txt), l[i]? = some row ∧ g = ⟨j + i, some (j + i), lawRuns row⟩
  | [], j => by simp [bandsR]
  | v :: r, j => by
    show g ∈ (⟨j, some j, lawRuns v⟩ : GB RunT) :: bandsR r (j + 1) ↔ _
    rw [List.mem_cons, mem_bandsR]
    constructor
    · rintro (rfl | ⟨i, row, h1, h2⟩)
      · exact ⟨0, v, rfl, by simp⟩
      · exact ⟨i + 1, row, h1, by rw [h2]; congr 1 <;> first | omega | (congr 1; omega)⟩
    · rintro ⟨i, row, h1, h2⟩
      cases i with
      | zero =>
        cases (Option.some.inj h1 : v = row)
        exact .inl (by rw [h2]; simp)
      | succ i => exact .inr ⟨i, row, h1, by rw [h2]; congr 1 <;> first | omega | (congr 1; omega)⟩
theorem bandsR_next : ∀ (l : List (List Txt)) (j : Int), (bandsR l j).Pairwise fun a b => ∃ m, a.e = some m ∧ m < b.f
  | [], _ => List.Pairwise.nil
  | v :: r, j => List.pairwise_cons.mpr ⟨fun b hb => by
      obtain ⟨i, row, _, rfl⟩ := mem_bandsR.mp hb
      exact ⟨j, rfl, by show j < j + 1 + (i : Int); omega⟩, bandsR_next r (j + 1)⟩
theorem bandsR_ok (l : List (List Txt)) : GsOk (-1) (bandsR l 0) := by
  refine ⟨fun g hg => ?_, fun g hg m e => ?_, bandsR_next l 0⟩
  · obtain ⟨i, row, _, rfl⟩ := mem_bandsR.mp hg
    show -1 < 0 + (i : Int)
    omega
  · obtain ⟨i, row, _, rfl⟩ := mem_bandsR.mp hg
    have e' := Option.some.inj e
    show 0 + (i : Int) ≤ m
    omega
theorem gR_bandsR {tab : List (List Txt)} {s : RunT} {m : Int} : gR (bandsR (tab ++ [[]]) 0) s m ↔ ∃ (i : Nat) (row : List Txt), tab[i]? = some row ∧ m = i ∧ s ∈ lawRuns row := by
  constructor
  · rintro ⟨g, hg, ⟨h1, h2⟩, h3⟩
    obtain ⟨i, row, z1, rfl⟩ := mem_bandsR.mp hg
    have := h2 _ rfl
    have h1' : 0 + (i : Int) ≤ m := h1
    by_cases hi : i < tab.length
    · rw [List.getElem?_append_left hi] at z1
      exact ⟨i, row, z1, by omega, h3⟩
    · have hl := (List.getElem?_eq_some_iff.mp z1).1
      rw [List.length_append] at hl
      have : i = tab.length := by simp at hl; omega
      subst this
      rw [List.getElem?_append_right (Nat.le_refl _), Nat.sub_self] at z1
      cases (Option.some.inj z1 : [] = row)
      cases h3
  · rintro ⟨i, row, h1, rfl, h3⟩
    have hi := (List.getElem?_eq_some_iff.mp h1).1
    exact ⟨⟨0 + (i : Int), some (0 + (i : Int)), lawRuns row⟩, mem_bandsR.mpr ⟨i, row, by rw [List.getElem?_append_left hi]; exact h1, rfl⟩, ⟨by show 0 + (i : Int) ≤ i; omega, fun m e => by cases e; omega⟩, h3⟩
/-- the law's list ahead of its sort -/
theorem lawFound_eq (tab : List (List Txt)) (n c : Int) : lawFound tab n c = (gOut ((bandsR (tab ++ [[]]) 0).foldl gStep ⟨[], [], some (-1)⟩)).map (mkQ n c) := by
  have q := lRel_fold (n := n) (c := c) (l := tab ++ [[]]) (i := 0) (st := ⟨[], []⟩) (st' := ⟨[], [], some (-1)⟩) ⟨rfl, rfl, rfl⟩
  have nb : (lpFold n c (tab ++ [[]]) 0 ⟨[], []⟩).begun = [] := by
    rw [lpFold_snoc]
    unfold lpStep
    show List.foldl (setdT (0 + (tab.length : Int))) (List.filter _ _) (lawRuns []) = []
    have e : lawRuns [] = [] := rfl
    rw [e]
    show List.filter _ _ = []
    rw [List.filter_eq_nil_iff]
    intro p _
    simp
  unfold lawFound gOut
  rw [q.1, ← q.2.1, nb]
  simp
theorem mem_lawFound {tab : List (List Txt)} {n c : Int} {p : Blk × Txt} (h : p ∈ lawFound tab n c) : ∃ (s : RunT) (t m : Int), p = mkQ n c (s, t, some m) ∧ MaxI (gR (bandsR (tab ++ [[]]) 0) s) t (some m) := by
  rw [lawFound_eq] at h
  obtain ⟨⟨s, t, b⟩, hq, rfl⟩ := List.mem_map.mp h
  have q := ((gFold_out (bandsR_ok (tab ++ [[]]))).1 _).mp hq
  cases b with
  | some m => exact ⟨s, t, m, rfl, q⟩
  | none =>
    exfalso
    have z := q.all ((if t ≤ (tab.length : Int) then (tab.length : Int) else t)) (by show t ≤ _; split <;> omega) (fun _ z => nomatch z)
    obtain ⟨i, row, h1, h2, _⟩ := gR_bandsR.mp z
    have hi := (List.getElem?_eq_some_iff.mp h1).1
    split at h2 <;> omega
theorem found_blk {tab : List (List Txt)} {n c : Int} (hn : 1 ≤ n) (hc : 1 ≤ c) {p : Blk × Txt} (h : p ∈ lawFound tab n c) : p.2 ≠ e0 ∧ IsBlk (isV (cellT tab n c) p.2) p.1 ∧ ∃ m q, p.1.b = some m ∧ p.1.r = some q := by
  obtain ⟨⟨j1, j2, v⟩, t, m, rfl, q⟩ := mem_lawFound h
  obtain ⟨i, row, z1, z2, z3⟩ := gR_bandsR.mp q.at
  have hv := (lawRuns_iff.mp z3).1
  refine ⟨hv, ?_, _, _, rfl, rfl⟩
  refine (maxI_shift (c := n).mpr q).congr fun x => ?_
  show gR (bandsR (tab ++ [[]]) 0) (j1, j2, v) (x - n) ↔ IsRun (isV (cellT tab n c) v) x (c + j1, some (c + j2))
  rw [gR_bandsR, run_iff hn hc hv]
theorem run_cover {l : List Txt} {j : Nat} {v : Txt} (hv : v ≠ e0) (h : l[j]? = some v) : ∃ s ∈ lawRuns l, s.2.2 = v ∧ s.1 ≤ (j : Int) ∧ (j : Int) ≤ s.2.1 := by
  have e1 := gFold_one (l := bandsL l 0) (st := ⟨[], [], some (-1)⟩) (.inl ⟨rfl, rfl⟩)
  have e2 : gOut (((bandsL l 0).map oneB).foldl gStep ⟨[], [], some (-1)⟩) = (lrFold l 0 []).map rtX := by
    rw [e1, lrFold_X]
    rfl
  obtain ⟨ok, hR⟩ := bandsL_ok l
  obtain ⟨q, hq, h1, h2, h3⟩ := (gFold_out ok).2.2 v (j : Int) ((hR v j).mpr ⟨j, h, rfl⟩)
  rw [e2] at hq
  obtain ⟨s, hs, rfl⟩ := List.mem_map.mp hq
  refine ⟨s, List.mem_filter.mpr ⟨hs, ?_⟩, h1, h2, h3 _ rfl⟩
  have h1' : s.2.2 = v := h1
  rw [h1']
  simpa using hv
theorem found_cov {tab : List (List Txt)} {n c a b : Int} {v : Txt} (hv : v ≠ e0) (h : tabAt tab n c a b = some v) : ∃ p ∈ lawFound tab n c, p.2 = v ∧ inB p.1 a b = true := by
  obtain ⟨i, j, row, h1, h2, rfl, rfl⟩ := tabAt_iff.mp h
  obtain ⟨⟨j1, j2, v'⟩, hr, hv', e1, e2⟩ := run_cover hv h2
  obtain rfl : v' = v := hv'
  obtain ⟨q, hq, e3, e4, e5⟩ := (gFold_out (bandsR_ok (tab ++ [[]]))).2.2 (j1, j2, v') (i : Int) (gR_bandsR.mpr ⟨i, row, h1, rfl, hr⟩)
  refine ⟨mkQ n c q, ?_, by unfold mkQ; rw [e3], ?_⟩
  · rw [lawFound_eq]
    exact List.mem_map.mpr ⟨q, hq, rfl⟩
  · obtain ⟨s, t, b⟩ := q
    have e3' : s = (j1, j2, v') := e3
    subst e3'
    have hm := ((gFold_out (bandsR_ok (tab ++ [[]]))).1 _).mp hq
    have hmem : mkQ n c ((j1, j2, v'), t, b) ∈ lawFound tab n c := by
      rw [lawFound_eq]
      exact List.mem_map.mpr ⟨_, hq, rfl⟩
    cases b with
    | none =>
      exfalso
      have z := hm.all ((if t ≤ (tab.length : Int) then (tab.length : Int) else t)) (by show t ≤ _; split <;> omega) (fun _ z => nomatch z)
      obtain ⟨i', row', h1', h2', _⟩ := gR_bandsR.mp z
      have hi := (List.getElem?_eq_some_iff.mp h1').1
      split at h2' <;> omega
    | some m =>
      have e4' : t ≤ (i : Int) := e4
      have e5' : (i : Int) ≤ m := e5 m rfl
      have e1' : j1 ≤ (j : Int) := e1
      have e2' : (j : Int) ≤ j2 := e2
      exact inB_iff.mpr ⟨⟨by show n + t ≤ n + i; omega, fun k e => by cases e; show n + (i : Int) ≤ n + m; omega⟩, by show c + j1 ≤ c + j; omega, fun k e => by cases e; show c + (j : Int) ≤ c + j2; omega⟩
end CB
end
section
set_option autoImplicit true
/-! what a sheet tells is what the law tells -/
namespace CB
open PySem CBM
theorem found_nd (tab : List (List Txt)) (n c : Int) : (lawFound tab n c).Nodup := by
  rw [lawFound_eq]
  have out := gFold_out (bandsR_ok (tab ++ [[]]))
  have some_ : ∀ q ∈ gOut ((bandsR (tab ++ [[]]) 0).foldl gStep ⟨[], [], some (-1)⟩), ∃ m, q.2.2 = some m := fun q hq => by
    obtain ⟨s, t, b⟩ := q
    cases b with
    | some m => exact ⟨m, rfl⟩
    | none =>
      exfalso
      have z := ((out.1 _).mp hq).all ((if t ≤ (tab.length : Int) then (tab.length : Int) else t)) (by show t ≤ _; split <;> omega) (fun _ z => nomatch z)
      obtain ⟨i, row, h1, h2, _⟩ := gR_bandsR.mp z
      have hi := (List.getElem?_eq_some_iff.mp h1).1
      split at h2 <;> omega
  refine nd_map (fun q hq q' hq' e => ?_) out.2.1
  obtain ⟨m, hm⟩ := some_ q hq
  obtain ⟨m', hm'⟩ := some_ q' hq'
  obtain ⟨⟨j1, j2, v⟩, t, b⟩ := q
  obtain ⟨⟨j1', j2', v'⟩, t', b'⟩ := q'
  cases hm
  cases hm'
  unfold mkQ at e
  simp at e
  obtain ⟨⟨e1, e2, e3, e4⟩, e5⟩ := e
  have z1 : t = t' := by omega
  have z2 : j1 = j1' := by omega
  have z3 : m = m' := by omega
  have z4 : j2 = j2' := by omega
  subst z1 z2 z3 z4 e5
  rfl
theorem mem_parts {h : Held} {p : Blk × Txt} : p ∈ partsH h ↔ p.2 ≠ e0 ∧ ∃ q ∈ h, q.1 = p.2 ∧ p.1 ∈ q.2 := by
  unfold partsH
  rw [List.mem_flatMap]
  constructor
  · rintro ⟨q, hq, hp⟩
    obtain ⟨b, hb, rfl⟩ := List.mem_map.mp hp
    obtain ⟨q1, q2⟩ := List.mem_filter.mp hq
    exact ⟨by simpa using q2, q, q1, rfl, hb⟩
  · rintro ⟨h1, q, hq, h2, h3⟩
    refine ⟨q, List.mem_filter.mpr ⟨hq, ?_⟩, List.mem_map.mpr ⟨p.1, h3, by rw [h2]⟩⟩
    rw [h2]
    simpa using h1
theorem parts_nd {h : Held} {val : Int → Int → Txt} (d : Desc h val) (nd : (keysH h).Nodup) : (partsH h).Nodup := by
  unfold partsH
  refine List.pairwise_flatMap.mpr ⟨fun q hq => ?_, ?_⟩
  · exact nd_map (fun a _ b _ e => by injection e) (ltB_ne (d.form q (List.mem_filter.mp hq).1).sorted)
  · have h1 : h.Pairwise fun a b => a.1 ≠ b.1 := List.pairwise_map.mp nd
    refine (h1.filter _).imp fun {a b} ne x hx y hy e => ?_
    obtain ⟨b1, _, rfl⟩ := List.mem_map.mp hx
    obtain ⟨b2, _, rfl⟩ := List.mem_map.mp hy
    injection e with _ e
    exact ne e
theorem sh_pairs {h : Held} {tab : List (List Txt)} {n c : Int} (s : ShT h tab n c) (hn : 1 ≤ n) (hc : 1 ≤ c) : CBM.pairsH h = lawPairs tab n c := by
  have memEq : ∀ p, p ∈ partsH h ↔ p ∈ lawFound tab n c := fun p => by
    rw [mem_parts]
    constructor
    · rintro ⟨h1, q, hq, h2, h3⟩
      have f := s.2.form q hq
      rw [h2] at f
      have hb := (f.mem p.1).mp h3
      have hcell := hb.inS hb.corner
      rw [isV_iff, cell_is h1] at hcell
      obtain ⟨p', hp', e1, e2⟩ := found_cov h1 hcell.2.2
      have hb' := (found_blk hn hc hp').2.1
      rw [e1] at hb'
      have e3 := hb.uniq hb' hb.corner e2
      have : p = p' := Prod.ext e3 e1.symm
      rw [this]
      exact hp'
    · intro hp
      obtain ⟨h1, h2, _⟩ := found_blk hn hc hp
      have hcell := h2.inS h2.corner
      have hcell' := isV_iff.mp hcell
      obtain ⟨q, hq, e⟩ := key_iff.mp (s.2.key _ _ hcell'.1 hcell'.2.1)
      rw [hcell'.2.2] at e
      refine ⟨h1, q, hq, e, ?_⟩
      have f := s.2.form q hq
      rw [e] at f
      exact (f.mem _).mpr h2
  have pm : (CBM.pairsH h).Perm (lawPairs tab n c) := ((List.mergeSort_perm _ _).trans (nodup_perm (parts_nd s.2 s.1.nd) (found_nd tab n c) memEq)).trans (List.mergeSort_perm _ _).symm
  refine List.Perm.eq_of_pairwise (le := fun a b => leP a b = true) (fun a b ha hb h1 h2 => ?_) ?_ ?_ pm
  · have blk : ∀ p ∈ CBM.pairsH h, p.2 ≠ e0 ∧ IsBlk (isV (cellT tab n c) p.2) p.1 := fun p hp => by
      have q := found_blk hn hc ((memEq p).mp ((List.mergeSort_perm _ _).mem_iff.mp hp))
      exact ⟨q.1, q.2.1⟩
    have qa := blk a ha
    have qb := blk b (pm.mem_iff.mpr hb)
    unfold leP at h1 h2
    rw [decide_eq_true_eq] at h1 h2
    have e1 : a.1.t = b.1.t := by omega
    have e2 : a.1.l = b.1.l := by omega
    have ca := (isV_iff.mp (qa.2.inS qa.2.corner)).2.2
    have cb := (isV_iff.mp (qb.2.inS qb.2.corner)).2.2
    have ev : a.2 = b.2 := by
      rw [← ca, ← cb, e1, e2]
    have ub := qb.2
    rw [← ev] at ub
    exact Prod.ext (qa.2.uniq ub qa.2.corner (by rw [e1, e2]; exact ub.corner)) ev
  · exact List.pairwise_mergeSort (le := leP) (fun a b c h1 h2 => by
      unfold leP at *
      rw [decide_eq_true_eq] at *
      omega) (fun a b => by
      unfold leP
      rw [Bool.or_eq_true, decide_eq_true_eq, decide_eq_true_eq]
      omega) _
  · refine (PySem.W.sort_pairwise (PySem.W.sortLe_total _ false _) (lawFound tab n c)).imp fun {a b} q => ?_
    have q' : PySem.W.dataLe false enc5 a b = true := q
    cases e : leP a b with
    | true => rfl
    | false =>
      exfalso
      unfold leP at e
      rw [decide_eq_false_iff_not] at e
      rw [PySem.W.dataLe_eq] at q'
      have q2 : (!PySem.W.dataLt (enc5 b) (enc5 a)) = true := q'
      have q3 : PySem.W.dataLt (enc5 b) (enc5 a) = true := by
        unfold enc5
        rw [PySem.W.dataLt_tuple, PySem.W.dataLt_cons (by simp [PySem.W.alike])]
        by_cases e1 : b.1.t = a.1.t
        · rw [if_pos (by simp [PyData.eqv, e1]), PySem.W.dataLt_cons (by simp [PySem.W.alike]), if_neg (by simp [PyData.eqv]; omega), PySem.W.dataLt_int]
          exact decide_eq_true (by omega)
        · rw [if_neg (by simp [PyData.eqv, e1]), PySem.W.dataLt_int]
          exact decide_eq_true (by omega)
      rw [q3] at q2
      cases q2
end CB
end
section
set_option autoImplicit true
/-! what is unlike in two sheets -/
namespace CB
open PySem CBM
theorem tabAt_dim {tab : List (List Txt)} {r k : Nat} (h : RectW tab r k) {n c a b : Int} : (∃ x, tabAt tab n c a b = some x) ↔ n ≤ a ∧ a < n + r ∧ c ≤ b ∧ b < c + k := by
  have hl := h.rows
  constructor
  · rintro ⟨x, e⟩
    obtain ⟨i, j, row, h1, h2, rfl, rfl⟩ := tabAt_iff.mp e
    have q1 := (List.getElem?_eq_some_iff.mp h1).1
    have q2 := (List.getElem?_eq_some_iff.mp h2).1
    have q3 := h.cols row (List.mem_of_getElem? h1)
    omega
  · rintro ⟨h1, h2, h3, h4⟩
    have hi : (a - n).toNat < tab.length := by omega
    have e1 : tab[(a - n).toNat]? = some tab[(a - n).toNat] := List.getElem?_eq_getElem hi
    have q3 := h.cols _ (List.getElem_mem hi)
    have hj : (b - c).toNat < tab[(a - n).toNat].length := by omega
    exact ⟨_, tabAt_iff.mpr ⟨_, _, _, e1, List.getElem?_eq_getElem hj, by omega, by omega⟩⟩
theorem mem_dueRow {u : U3} : ∀ {l m : List Txt} {n c : Int}, u ∈ dueRow n c l m ↔ u.2.1 ≠ u.2.2 ∧ ∃ j : Nat, l[j]? = some u.2.1 ∧ m[j]? = some u.2.2 ∧ u.1 = (n, c + j)
  | [], m, n, c => by cases m <;> simp [dueRow]
  | x :: l, [], n, c => by simp [dueRow]
  | x :: l, y :: m, n, c => by
    show u ∈ (if y ≠ x then [((n, c), x, y)] else []) ++ dueRow n (c + 1) l m ↔ _
    rw [List.mem_append, mem_dueRow]
    constructor
    · rintro (h | ⟨h0, j, h1, h2, h3⟩)
      · split at h
        · rename_i ne
          rw [List.mem_singleton.mp h]
          exact ⟨fun e => ne e.symm, 0, rfl, rfl, by simp⟩
        · cases h
      · exact ⟨h0, j + 1, h1, h2, by rw [h3]; congr 1; omega⟩
    · rintro ⟨h0, j, h1, h2, h3⟩
      cases j with
      | zero =>
        have e1 : x = u.2.1 := Option.some.inj h1
        have e2 : y = u.2.2 := Option.some.inj h2
        refine .inl ?_
        rw [if_pos (by rw [e1, e2]; exact fun e => h0 e.symm), List.mem_singleton]
        obtain ⟨⟨a, b⟩, v, s⟩ := u
        simp at h3 e1 e2
        rw [e1, e2, h3.1, h3.2]
      | succ j => exact .inr ⟨h0, j, h1, h2, by rw [h3]; congr 1; omega⟩
theorem mem_dueL {u : U3} : ∀ {t s : List (List Txt)} {n c : Int}, u ∈ dueL n c t s ↔ u.2.1 ≠ u.2.2 ∧ tabAt t n c u.1.1 u.1.2 = some u.2.1 ∧ tabAt s n c u.1.1 u.1.2 = some u.2.2 := by
  have main : ∀ {t s : List (List Txt)} {n c : Int}, u ∈ dueL n c t s ↔ u.2.1 ≠ u.2.2 ∧ ∃ (i j : Nat) (x y : List Txt), t[i]? = some x ∧ s[i]? = some y ∧ x[j]? = some u.2.1 ∧ y[j]? = some u.2.2 ∧ u.1 = (n + i, c + j) := by
    intro t
    induction t with
    | nil => intro s n c; cases s <;> simp [dueL]
    | cons x t ih =>
      intro s n c
      cases s with
      | nil => simp [dueL]
      | cons y s =>
        show u ∈ dueRow n c x y ++ dueL (n + 1) c t s ↔ _
        rw [List.mem_append, mem_dueRow, ih]
        constructor
        · rintro (⟨h0, j, h1, h2, h3⟩ | ⟨h0, i, j, x', y', h1, h2, h3, h4, h5⟩)
          · exact ⟨h0, 0, j, x, y, rfl, rfl, h1, h2, by rw [h3]; simp⟩
          · exact ⟨h0, i + 1, j, x', y', h1, h2, h3, h4, by rw [h5]; congr 1; omega⟩
        · rintro ⟨h0, i, j, x', y', h1, h2, h3, h4, h5⟩
          cases i with
          | zero =>
            cases (Option.some.inj h1 : x = x')
            cases (Option.some.inj h2 : y = y')
            exact .inl ⟨h0, j, h3, h4, by rw [h5]; simp⟩
          | succ i => exact .inr ⟨h0, i, j, x', y', h1, h2, h3, h4, by rw [h5]; congr 1; omega⟩
  intro t s n c
  rw [main]
  refine and_congr Iff.rfl ⟨?_, ?_⟩
  · rintro ⟨i, j, x, y, h1, h2, h3, h4, h5⟩
    rw [h5]
    exact ⟨tabAt_iff.mpr ⟨i, j, x, h1, h3, rfl, rfl⟩, tabAt_iff.mpr ⟨i, j, y, h2, h4, rfl, rfl⟩⟩
  · rintro ⟨h1, h2⟩
    obtain ⟨i, j, x, z1, z2, z3, z4⟩ := tabAt_iff.mp h1
    obtain ⟨i', j', y, z1', z2', z3', z4'⟩ := tabAt_iff.mp h2
    have ei : i' = i := by omega
    have ej : j' = j := by omega
    subst ei ej
    exact ⟨i', j', x, y, z1, z1', z2, z2', Prod.ext z3 z4⟩
theorem dueRow_nd : ∀ (l m : List Txt) (n c : Int), ((dueRow n c l m).map (·.1)).Nodup
  | [], m, n, c => by cases m <;> exact List.nodup_nil
  | x :: l, [], n, c => List.nodup_nil
  | x :: l, y :: m, n, c => by
    show (((if y ≠ x then [((n, c), x, y)] else []) ++ dueRow n (c + 1) l m).map (·.1)).Nodup
    split
    · show ((n, c) :: (dueRow n (c + 1) l m).map (·.1)).Nodup
      refine List.nodup_cons.mpr ⟨fun h => ?_, dueRow_nd l m n (c + 1)⟩
      obtain ⟨u, hu, e⟩ := List.mem_map.mp h
      have := (dueRow_ge hu).2
      rw [e] at this
      have : c + 1 ≤ c := this
      omega
    · exact dueRow_nd l m n (c + 1)
theorem dueL_nd : ∀ (l m : List (List Txt)) (n c : Int), ((dueL n c l m).map (·.1)).Nodup
  | [], m, n, c => by cases m <;> exact List.nodup_nil
  | x :: l, [], n, c => List.nodup_nil
  | x :: l, y :: m, n, c => by
    show ((dueRow n c x y ++ dueL (n + 1) c l m).map (·.1)).Nodup
    rw [List.map_append]
    refine List.nodup_append.mpr ⟨dueRow_nd x y n c, dueL_nd l m (n + 1) c, fun a ha b hb e => ?_⟩
    obtain ⟨u, hu, rfl⟩ := List.mem_map.mp ha
    obtain ⟨u', hu', rfl⟩ := List.mem_map.mp hb
    have q1 := (dueRow_ge hu).1
    have q2 := (dueL_ge hu').1
    rw [← e] at q2
    omega
/-- the cells of a finite block -/
theorem mem_blkU {p : Tri} {u : U3} {m q : Int} (hm : p.1.b = some m) (hq : p.1.r = some q) : u ∈ blkU p ↔ u.2 = (p.2.1, p.2.2) ∧ inB p.1 u.1.1 u.1.2 = true := by
  unfold blkU rowU
  rw [hm, hq, List.mem_flatMap, inB_iff, hm, hq]
  constructor
  · rintro ⟨n, hn, hu⟩
    obtain ⟨c, hc, rfl⟩ := List.mem_map.mp hu
    rw [mem_upN] at hn hc
    simp only [Option.getD_some] at hn hc
    exact ⟨rfl, ⟨hn.1, fun k e => by cases e; show n ≤ m; omega⟩, hc.1, fun k e => by cases e; show c ≤ q; omega⟩
  · rintro ⟨e, ⟨h1, h2⟩, h3, h4⟩
    have h2' := h2 m rfl
    have h4' := h4 q rfl
    refine ⟨u.1.1, mem_upN.mpr ⟨h1, by simp only [Option.getD_some]; omega⟩, List.mem_map.mpr ⟨u.1.2, mem_upN.mpr ⟨h3, by simp only [Option.getD_some]; omega⟩, ?_⟩⟩
    obtain ⟨⟨a, b⟩, w⟩ := u
    have e' : w = (p.2.1, p.2.2) := e
    rw [e']
theorem upN_nd (lo : Int) : ∀ k, (upN lo k).Nodup
  | 0 => List.nodup_nil
  | k + 1 => by
    show (upN lo k ++ [lo + (k : Int)]).Nodup
    refine List.nodup_append.mpr ⟨upN_nd lo k, by simp, fun a ha b hb e => ?_⟩
    rw [List.mem_singleton.mp hb] at e
    have := (mem_upN.mp ha).2
    omega
theorem blkU_nd (p : Tri) : (blkU p).Nodup := by
  unfold blkU rowU
  refine List.pairwise_flatMap.mpr ⟨fun n _ => nd_map (fun a _ b _ e => by injection e with e _; injection e) (upN_nd _ _), (upN_nd _ _).imp fun {a b} ne x hx y hy e => ?_⟩
  obtain ⟨c1, _, rfl⟩ := List.mem_map.mp hx
  obtain ⟨c2, _, rfl⟩ := List.mem_map.mp hy
  injection e with e _
  injection e with e _
  exact ne e
theorem blkU_len (p : Tri) : (blkU p).length = ((p.1.b.getD 0) + 1 - p.1.t).toNat * ((p.1.r.getD 0) + 1 - p.1.l).toNat := by
  unfold blkU
  have e : ∀ n, (rowU p.1 p.2.1 p.2.2 n).length = ((p.1.r.getD 0) + 1 - p.1.l).toNat := fun n => by
    unfold rowU
    rw [List.length_map, upN_len]
  have : ∀ l : List Int, (l.flatMap (rowU p.1 p.2.1 p.2.2)).length = l.length * ((p.1.r.getD 0) + 1 - p.1.l).toNat := by
    intro l
    induction l with
    | nil => simp
    | cons x l ih =>
      rw [List.flatMap_cons, List.length_append, ih, e, List.length_cons, Nat.succ_mul]
      omega
  rw [this, upN_len]
end CB
end
section
set_option autoImplicit true
/-! what is unlike: the blocks, their cells -/
namespace CB
open PySem CBM
def isU (val1 val2 : Int → Int → Txt) (v s : Txt) : Int → Int → Bool := fun a b => decide (1 ≤ a ∧ 1 ≤ b ∧ val1 a b = v ∧ val2 a b = s)
theorem isU_iff {val1 val2 : Int → Int → Txt} {v s : Txt} {a b : Int} : isU val1 val2 v s a b = true ↔ 1 ≤ a ∧ 1 ≤ b ∧ val1 a b = v ∧ val2 a b = s := decide_eq_true_iff
section
variable {rs cs : List Int} {h1 h2 : Held} {val1 val2 : Int → Int → Txt}
theorem where_fine (x : HeldFit rs cs h1) (v : Txt) : Fine rs cs (whereH h1 v) := by
  have q := x.get v
  rw [areaOf_nil] at q
  exact q
theorem unlA_form (x1 : HeldFit rs cs h1) (x2 : HeldFit rs cs h2) (d1 : Desc h1 val1) (d2 : Desc h2 val2) (v : Txt) : IsForm (fun a b => kSub (isV val1 v a b) (isV val2 v a b)) (unlA h1 h2 v) ∧ Fine rs cs (unlA h1 h2 v) := by
  refine ⟨(areaK_form (k := kSub) (where_fine x1 v).2.2.1 (where_fine x2 v).2.2.1 x1.r x1.c rfl).congr fun a b => ?_, fine_areaK kSub (where_fine x1 v) (where_fine x2 v)⟩
  have e1 := (get_form d1 v).has a b
  have e2 := (get_form d2 v).has a b
  unfold whereH
  rw [e1, e2]
theorem part_form (x1 : HeldFit rs cs h1) (x2 : HeldFit rs cs h2) (d1 : Desc h1 val1) (d2 : Desc h2 val2) {v s : Txt} (ne : s ≠ v) : IsForm (isU val1 val2 v s) (areaK (unlA h1 h2 v) (whereH h2 s) kAnd) ∧ Fine rs cs (areaK (unlA h1 h2 v) (whereH h2 s) kAnd) := by
  obtain ⟨f, ff⟩ := unlA_form x1 x2 d1 d2 v
  refine ⟨(areaK_form (k := kAnd) ff.2.2.1 (where_fine x2 s).2.2.1 x1.r x1.c rfl).congr fun a b => bool_ext ?_, fine_areaK kAnd ff (where_fine x2 s)⟩
  have e2 := (get_form d2 s).has a b
  unfold whereH
  rw [f.has, e2, isU_iff]
  unfold kAnd kSub
  rw [Bool.and_eq_true, Bool.and_eq_true, isV_iff, isV_iff, Bool.not_eq_true', ← Bool.not_eq_true, isV_iff]
  constructor
  · rintro ⟨⟨⟨z1, z2, z3⟩, _⟩, _, _, z4⟩
    exact ⟨z1, z2, z3, z4⟩
  · rintro ⟨z1, z2, z3, z4⟩
    exact ⟨⟨⟨z1, z2, z3⟩, fun z => ne (z4.symm.trans z.2.2)⟩, z1, z2, z4⟩
theorem mem_unlikeP {p : Tri} : p ∈ unlikeP h1 h2 ↔ p.2.1 ∈ keysH h1 ∧ p.2.2 ∈ keysH h2 ∧ (p.2.2 ≠ p.2.1 ∧ unlA h1 h2 p.2.1 ≠ []) ∧ p.1 ∈ areaK (unlA h1 h2 p.2.1) (whereH h2 p.2.2) kAnd := by
  unfold unlikeP
  rw [List.mem_flatMap]
  constructor
  · rintro ⟨v, hv, h⟩
    obtain ⟨s, hs, h⟩ := List.mem_flatMap.mp h
    unfold inU at h
    split at h
    · rename_i hc
      obtain ⟨b, hb, rfl⟩ := List.mem_map.mp h
      exact ⟨(sortT_perm _).mem_iff.mp hv, (sortT_perm _).mem_iff.mp hs, hc, hb⟩
    · cases h
  · rintro ⟨z1, z2, z3, z4⟩
    refine ⟨p.2.1, (sortT_perm _).mem_iff.mpr z1, List.mem_flatMap.mpr ⟨p.2.2, (sortT_perm _).mem_iff.mpr z2, ?_⟩⟩
    unfold inU
    rw [if_pos z3]
    exact List.mem_map.mpr ⟨p.1, z4, rfl⟩
theorem unlike_iff (x1 : HeldFit rs cs h1) (x2 : HeldFit rs cs h2) (d1 : Desc h1 val1) (d2 : Desc h2 val2) {p : Tri} : p ∈ unlikeH h1 h2 ↔ p.2.2 ≠ p.2.1 ∧ IsBlk (isU val1 val2 p.2.1 p.2.2) p.1 := by
  unfold unlikeH
  rw [List.mem_mergeSort, mem_unlikeP]
  constructor
  · rintro ⟨_, _, ⟨ne, _⟩, h⟩
    exact ⟨ne, ((part_form x1 x2 d1 d2 ne).1.mem _).mp h⟩
  · rintro ⟨ne, h⟩
    have q := isU_iff.mp (h.inS h.corner)
    refine ⟨by rw [← q.2.2.1]; exact d1.key _ _ q.1 q.2.1, by rw [← q.2.2.2]; exact d2.key _ _ q.1 q.2.1, ⟨ne, form_ne (unlA_form x1 x2 d1 d2 p.2.1).1 (a := p.1.t) (b := p.1.l) ?_⟩, ((part_form x1 x2 d1 d2 ne).1.mem _).mpr h⟩
    show (isV val1 p.2.1 p.1.t p.1.l && !isV val2 p.2.1 p.1.t p.1.l) = true
    rw [Bool.and_eq_true, Bool.not_eq_true', ← Bool.not_eq_true, isV_iff, isV_iff]
    exact ⟨⟨q.1, q.2.1, q.2.2.1⟩, fun z => ne (q.2.2.2.symm.trans z.2.2)⟩
theorem unlike_nd (x1 : HeldFit rs cs h1) (x2 : HeldFit rs cs h2) (d1 : Desc h1 val1) (d2 : Desc h2 val2) : (unlikeH h1 h2).Nodup := by
  unfold unlikeH
  rw [(List.mergeSort_perm _ _).nodup_iff]
  have nd1 : (sortT (keysH h1)).Nodup := (sortT_perm _).nodup_iff.mpr x1.nd
  have nd2 : (sortT (keysH h2)).Nodup := (sortT_perm _).nodup_iff.mpr x2.nd
  have inn : ∀ {v s : Txt} {t : Tri}, t ∈ inU h2 v (unlA h1 h2 v) s → t.2.1 = v ∧ t.2.2 = s := fun {v s t} h => by
    unfold inU at h
    split at h
    · obtain ⟨b, _, rfl⟩ := List.mem_map.mp h
      exact ⟨rfl, rfl⟩
    · cases h
  unfold unlikeP
  refine List.pairwise_flatMap.mpr ⟨fun v _ => List.pairwise_flatMap.mpr ⟨fun s _ => ?_, nd2.imp fun {a b} ne x hx y hy e => ?_⟩, nd1.imp fun {a b} ne x hx y hy e => ?_⟩
  · unfold inU
    split
    · rename_i hc
      exact nd_map (fun a _ b _ e => by injection e) (ltB_ne (part_form x1 x2 d1 d2 hc.1).1.sorted)
    · exact List.Pairwise.nil
  · have q1 := (inn hx).2
    have q2 := (inn hy).2
    rw [e, q2] at q1
    exact ne q1.symm
  · obtain ⟨s, _, hx⟩ := List.mem_flatMap.mp hx
    obtain ⟨s', _, hy⟩ := List.mem_flatMap.mp hy
    have q1 := (inn hx).1
    have q2 := (inn hy).1
    rw [e, q2] at q1
    exact ne q1.symm
theorem unlike_fits (x1 : HeldFit rs cs h1) (x2 : HeldFit rs cs h2) (d1 : Desc h1 val1) (d2 : Desc h2 val2) : Fits rs cs ((unlikeH h1 h2).map (·.1)) := fun b hb => by
  obtain ⟨p, hp, rfl⟩ := List.mem_map.mp hb
  unfold unlikeH at hp
  rw [List.mem_mergeSort, mem_unlikeP] at hp
  exact (part_form x1 x2 d1 d2 hp.2.2.1.1).2.2.2.1 _ hp.2.2.2
end
section
variable {h1 h2 : Held} {tab sec : List (List Txt)} {r k : Nat} {n c : Int}
theorem unl_cell (hR : RectW tab r k) (hS : RectW sec r k) {v s : Txt} {a b : Int} (ne : s ≠ v) : (cellT tab n c a b = v ∧ cellT sec n c a b = s) ↔ tabAt tab n c a b = some v ∧ tabAt sec n c a b = some s := by
  constructor
  · rintro ⟨e1, e2⟩
    unfold cellT at e1 e2
    have d1 := tabAt_dim hR (n := n) (c := c) (a := a) (b := b)
    have d2 := tabAt_dim hS (n := n) (c := c) (a := a) (b := b)
    cases z1 : tabAt tab n c a b with
    | none =>
      cases z2 : tabAt sec n c a b with
      | none =>
        rw [z1] at e1
        rw [z2] at e2
        exact absurd (e2.symm.trans e1) ne
      | some y =>
        obtain ⟨x, hx⟩ := d1.mpr (d2.mp ⟨y, z2⟩)
        rw [z1] at hx
        cases hx
    | some x =>
      obtain ⟨y, hy⟩ := d2.mpr (d1.mp ⟨x, z1⟩)
      rw [z1] at e1
      rw [hy] at e2
      have e1' : x = v := e1
      have e2' : y = s := e2
      rw [hy, e1', e2']
      exact ⟨rfl, rfl⟩
  · rintro ⟨e1, e2⟩
    exact ⟨cellT_in e1, cellT_in e2⟩
theorem fin_blk {S : Int → Int → Bool} {b : Blk} (h : IsBlk S b) (hS : ∀ a b, S a b = true → n ≤ a ∧ a < n + r ∧ c ≤ b ∧ b < c + k) : ∃ m q, b.b = some m ∧ b.r = some q ∧ n ≤ b.t ∧ b.t ≤ m ∧ m < n + r ∧ c ≤ b.l ∧ b.l ≤ q ∧ q < c + k := by
  have h0 := hS _ _ (h.inS h.corner)
  obtain ⟨t, l, bb, rr⟩ := b
  cases bb with
  | none =>
    exfalso
    have := hS (n + r + t - n) l (h.inS (inB_iff.mpr ⟨⟨by show t ≤ _; omega, fun _ z => nomatch z⟩, Int.le_refl _, h.at.ne⟩))
    have h0' : n ≤ t := h0.1
    omega
  | some m =>
    cases rr with
    | none =>
      exfalso
      have := hS t (c + k + l - c) (h.inS (inB_iff.mpr ⟨⟨Int.le_refl _, h.ne⟩, by show l ≤ _; omega, fun _ z => nomatch z⟩))
      have h0' : c ≤ l := h0.2.2.1
      omega
    | some q =>
      have z1 : t ≤ m := h.ne m rfl
      have z2 : l ≤ q := h.at.ne q rfl
      have := hS m q (h.inS (inB_iff.mpr ⟨⟨z1, fun k e => by cases e; exact Int.le_refl _⟩, z2, fun k e => by cases e; exact Int.le_refl _⟩))
      exact ⟨m, q, rfl, rfl, h0.1, z1, this.2.1, h0.2.2.1, z2, this.2.2.2⟩
/-- the cells of what is unlike are the due ones -/
theorem mem_cellsU (s1 : ShT h1 tab n c) (s2 : ShT h2 sec n c) (hR : RectW tab r k) (hS : RectW sec r k) (hn : 1 ≤ n) (hc : 1 ≤ c) {u : U3} : u ∈ cellsU (unlikeH h1 h2) ↔ u ∈ dueL n c tab sec := by
  have ui := fun p => unlike_iff s1.1 s2.1 s1.2 s2.2 (p := p)
  rw [mem_dueL]
  unfold cellsU
  rw [List.mem_flatMap]
  have inside : ∀ {v s : Txt}, s ≠ v → ∀ a b, isU (cellT tab n c) (cellT sec n c) v s a b = true → n ≤ a ∧ a < n + r ∧ c ≤ b ∧ b < c + k := fun ne a b h =>
    (tabAt_dim hR).mp ⟨_, ((unl_cell hR hS ne).mp ⟨(isU_iff.mp h).2.2.1, (isU_iff.mp h).2.2.2⟩).1⟩
  constructor
  · rintro ⟨p, hp, hu⟩
    obtain ⟨ne, hb⟩ := (ui p).mp hp
    obtain ⟨m, q, hm, hq, _⟩ := fin_blk hb (inside ne)
    obtain ⟨e, i⟩ := (mem_blkU hm hq).mp hu
    have z := isU_iff.mp (hb.inS i)
    have e1 : u.2.1 = p.2.1 := by rw [e]
    have e2 : u.2.2 = p.2.2 := by rw [e]
    rw [e1, e2]
    exact ⟨fun z => ne z.symm, (unl_cell hR hS ne).mp ⟨z.2.2.1, z.2.2.2⟩⟩
  · rintro ⟨ne, z1, z2⟩
    have ne' : u.2.2 ≠ u.2.1 := fun z => ne z.symm
    have p := tabAt_pos hn hc z1
    have hu : isU (cellT tab n c) (cellT sec n c) u.2.1 u.2.2 u.1.1 u.1.2 = true := isU_iff.mpr ⟨p.1, p.2, (unl_cell hR hS ne').mpr ⟨z1, z2⟩⟩
    have f := (part_form s1.1 s2.1 s1.2 s2.2 ne').1
    rw [← f.has, hasC_iff] at hu
    obtain ⟨b, hb, i⟩ := hu
    have hb' := (f.mem b).mp hb
    obtain ⟨m, q, hm, hq, _⟩ := fin_blk hb' (inside ne')
    exact ⟨(b, u.2.1, u.2.2), (ui _).mpr ⟨ne', hb'⟩, (mem_blkU (p := (b, u.2.1, u.2.2)) hm hq).mpr ⟨rfl, i⟩⟩
end
end CB
end
section
set_option autoImplicit true
/-! all that the law asks of the mathematics -/
namespace CB
open PySem CBM
theorem le_fm {α β : Type} {f : α → List β} : ∀ {l : List α}, (∀ x ∈ l, f x ≠ []) → l.length ≤ (l.flatMap f).length
  | [], _ => Nat.zero_le _
  | x :: l, h => by
    have h1 := List.length_pos_iff.mpr (h x (List.mem_cons_self ..))
    have h2 := le_fm (l := l) fun y hy => h y (List.mem_cons_of_mem _ hy)
    rw [List.flatMap_cons, List.length_append, List.length_cons]
    omega
theorem encU_le {a b : U3} (h : PySem.W.dataLe false encU a b = true) : a.1.1 < b.1.1 ∨ (a.1.1 = b.1.1 ∧ a.1.2 ≤ b.1.2) := by
  rw [PySem.W.dataLe_eq] at h
  have h2 : (!PySem.W.dataLt (encU b) (encU a)) = true := h
  unfold encU at h2
  rw [PySem.W.dataLt_tuple, PySem.W.dataLt_cons (by simp [PySem.W.alike, PySem.W.alikeAll])] at h2
  by_cases e : b.1.1 = a.1.1 ∧ b.1.2 = a.1.2
  · omega
  · rw [if_neg (by simp [PyData.eqv, PyData.eqvAll]; omega), PySem.W.dataLt_ii] at h2
    rw [Bool.not_eq_true', decide_eq_false_iff_not] at h2
    omega
theorem sortU3_pw (l : List U3) : (sortU3 l).Pairwise fun a b => a.1.1 < b.1.1 ∨ (a.1.1 = b.1.1 ∧ a.1.2 ≤ b.1.2) := (PySem.W.sort_pairwise (PySem.W.sortLe_total _ false _) l).imp fun {a b} q => encU_le q
theorem cells_nd {S : Tri → Int → Int → Bool} {l : List Tri} (nd : l.Nodup) (hb : ∀ p ∈ l, IsBlk (S p) p.1) (fin : ∀ p ∈ l, ∃ m q, p.1.b = some m ∧ p.1.r = some q) (same : ∀ p ∈ l, ∀ p' ∈ l, p.2 = p'.2 → S p = S p') : (cellsU l).Nodup := by
  unfold cellsU
  refine List.pairwise_flatMap.mpr ⟨fun p _ => blkU_nd p, List.Pairwise.imp_of_mem (fun {p p'} hp hp' ne x hx y hy e => ?_) nd⟩
  subst e
  obtain ⟨m, q, hm, hq⟩ := fin p hp
  obtain ⟨m', q', hm', hq'⟩ := fin p' hp'
  obtain ⟨e1, i1⟩ := (mem_blkU hm hq).mp hx
  obtain ⟨e2, i2⟩ := (mem_blkU hm' hq').mp hy
  have e3 : p.2 = p'.2 := by
    rw [e1] at e2
    exact e2
  have b1 := hb p hp
  have b2 := hb p' hp'
  rw [same p hp p' hp' e3] at b1
  exact ne (Prod.ext (b1.uniq b2 i1 i2) e3)
theorem sh_unl {h1 h2 : Held} {tab sec : List (List Txt)} {r k : Nat} {n c : Int} (s1 : ShT h1 tab n c) (s2 : ShT h2 sec n c) (hR : RectW tab r k) (hS : RectW sec r k) (hn : 1 ≤ n) (hc : 1 ≤ c) (hn2 : n ≤ 2000000000) (hc2 : c ≤ 2000000000) (hr : r ≤ 14) (hk : k ≤ 14) : UnlOk (gridR n) (gridR c) h1 h2 tab sec n c := by
  have ui := fun p => unlike_iff s1.1 s2.1 s1.2 s2.2 (p := p)
  have inside : ∀ {v s : Txt}, s ≠ v → ∀ a b, isU (cellT tab n c) (cellT sec n c) v s a b = true → n ≤ a ∧ a < n + r ∧ c ≤ b ∧ b < c + k := fun ne a b h =>
    (tabAt_dim hR).mp ⟨_, ((unl_cell hR hS ne).mp ⟨(isU_iff.mp h).2.2.1, (isU_iff.mp h).2.2.2⟩).1⟩
  have fin0 : ∀ p ∈ unlikeH h1 h2, ∃ m q, p.1.b = some m ∧ p.1.r = some q ∧ n ≤ p.1.t ∧ p.1.t ≤ m ∧ m < n + r ∧ c ≤ p.1.l ∧ p.1.l ≤ q ∧ q < c + k := fun p hp => by
    obtain ⟨ne, hb⟩ := (ui p).mp hp
    exact fin_blk hb (inside ne)
  have cells : ∀ u, u ∈ cellsU (unlikeH h1 h2) ↔ u ∈ dueL n c tab sec := fun u => mem_cellsU s1 s2 hR hS hn hc
  have ndc : (cellsU (unlikeH h1 h2)).Nodup := cells_nd (S := fun p => isU (cellT tab n c) (cellT sec n c) p.2.1 p.2.2) (unlike_nd s1.1 s2.1 s1.2 s2.2) (fun p hp => ((ui p).mp hp).2) (fun p hp => by
    obtain ⟨m, q, hm, hq, _⟩ := fin0 p hp
    exact ⟨m, q, hm, hq⟩) fun p _ p' _ e => by rw [e]
  have ndd := dueL_nd tab sec n c
  have pm : (cellsU (unlikeH h1 h2)).Perm (dueL n c tab sec) := nodup_perm ndc (nd_of_map ndd) cells
  have ldue : (dueL n c tab sec).length ≤ 196 := by
    have q1 := dueL_len (k := k) (l := tab) (m := sec) (n := n) (c := c) fun row hrow => by rw [hR.cols row hrow]; exact Nat.le_refl _
    have q2 : tab.length * k ≤ 14 * 14 := Nat.mul_le_mul (by rw [hR.rows]; exact hr) hk
    omega
  have lcells : (cellsU (unlikeH h1 h2)).length ≤ 196 := by
    rw [pm.length_eq]
    exact ldue
  have lunl : (unlikeH h1 h2).length ≤ 196 := by
    refine Nat.le_trans (le_fm (f := blkU) fun p hp e => ?_) lcells
    obtain ⟨m, q, hm, hq, z⟩ := fin0 p hp
    have : (((p.1.t, p.1.l), p.2.1, p.2.2) : U3) ∈ blkU p := (mem_blkU hm hq).mpr ⟨rfl, ((ui p).mp hp).2.corner⟩
    rw [e] at this
    cases this
  have fine : Fine (gridR n) (gridR c) ((unlikeH h1 h2).map (·.1)) := ⟨gridR_len n, gridR_len c, unlike_fits s1.1 s2.1 s1.2 s2.2, by rw [List.length_map]; omega⟩
  have form := areaOf_form fine.2.2.1
  -- the cells that are unlike
  have hasU : ∀ a b, hasC ((unlikeH h1 h2).map (·.1)) a b = true ↔ ∃ u ∈ dueL n c tab sec, u.1 = (a, b) := fun a b => by
    rw [hasC_iff]
    constructor
    · rintro ⟨x, hx, i⟩
      obtain ⟨p, hp, rfl⟩ := List.mem_map.mp hx
      obtain ⟨m, q, hm, hq, _⟩ := fin0 p hp
      exact ⟨((a, b), p.2.1, p.2.2), (cells _).mp (List.mem_flatMap.mpr ⟨p, hp, (mem_blkU hm hq).mpr ⟨rfl, i⟩⟩), rfl⟩
    · rintro ⟨u, hu, e⟩
      obtain ⟨p, hp, hu⟩ := List.mem_flatMap.mp ((cells u).mpr hu)
      obtain ⟨m, q, hm, hq, _⟩ := fin0 p hp
      have i := ((mem_blkU hm hq).mp hu).2
      rw [e] at i
      exact ⟨p.1, List.mem_map.mpr ⟨p, hp, rfl⟩, i⟩
  have insideA : ∀ a b, hasC ((unlikeH h1 h2).map (·.1)) a b = true → n ≤ a ∧ a < n + r ∧ c ≤ b ∧ b < c + k := fun a b h => by
    obtain ⟨u, hu, e⟩ := (hasU a b).mp h
    have z := (mem_dueL.mp hu).2.1
    rw [e] at z
    exact (tabAt_dim hR).mp ⟨_, z⟩
  have finA : ∀ b ∈ areaOf ((unlikeH h1 h2).map (·.1)), ∃ m q, b.b = some m ∧ b.r = some q ∧ n ≤ b.t ∧ b.t ≤ m ∧ m < n + r ∧ c ≤ b.l ∧ b.l ≤ q ∧ q < c + k := fun b hb => fin_blk ((form.mem b).mp hb) insideA
  refine ⟨s1.1.ok, s2.1.ok, by rw [hR.rows, hS.rows], fun i x y hx hy => by rw [hR.cols x (List.mem_of_getElem? hx), hS.cols y (List.mem_of_getElem? hy)], by rw [hR.rows]; exact hr, fun row hrow => by rw [hR.cols row hrow]; exact hk, fun u hu => ?_, fine, fun p hp => ?_, by omega, ?_, fun b hb => ?_, ?_, fun u hu => ?_⟩
  · obtain ⟨_, z1, z2⟩ := mem_dueL.mp hu
    exact ⟨strOk13 _ (flat14 hR _ (flat_of z1)), strOk13 _ (flat14 hS _ (flat_of z2))⟩
  · obtain ⟨m, q, hm, hq, z⟩ := fin0 p hp
    exact ⟨m, q, hm, hq, by omega, by omega, by omega, by omega, z.2.1, z.2.2.2.2.1⟩
  · refine List.Perm.eq_of_pairwise (fun a b ha hb q1 q2 => ?_) (sortU3_pw _) (sortU3_pw _) (((List.mergeSort_perm _ _).trans pm).trans (List.mergeSort_perm _ _).symm)
    have ha' := mem_dueL.mp ((cells a).mp ((List.mergeSort_perm _ _).mem_iff.mp ha))
    have hb' := mem_dueL.mp ((List.mergeSort_perm _ _).mem_iff.mp hb)
    have e1 : a.1.1 = b.1.1 := by omega
    have e2 : a.1.2 = b.1.2 := by omega
    rw [e1, e2] at ha'
    have z1 := Option.some.inj (ha'.2.1.symm.trans hb'.2.1)
    have z2 := Option.some.inj (ha'.2.2.symm.trans hb'.2.2)
    exact Prod.ext (Prod.ext e1 e2) (Prod.ext z1 z2)
  · obtain ⟨m, q, hm, hq, z⟩ := finA b hb
    exact ⟨m, q, hm, hq, by omega, by omega⟩
  · -- as many cells as the blocks say
    have ndA : (cellsU ((areaOf ((unlikeH h1 h2).map (·.1))).map fun b => (b, e0, e0))).Nodup := cells_nd (S := fun _ => hasC ((unlikeH h1 h2).map (·.1))) (nd_map (fun a _ b _ e => by injection e) (ltB_ne form.sorted)) (fun p hp => by
      obtain ⟨b, hb, rfl⟩ := List.mem_map.mp hp
      exact (form.mem b).mp hb) (fun p hp => by
      obtain ⟨b, hb, rfl⟩ := List.mem_map.mp hp
      obtain ⟨m, q, hm, hq, _⟩ := finA b hb
      exact ⟨m, q, hm, hq⟩) fun _ _ _ _ _ => rfl
    have ndB : ((dueL n c tab sec).map fun u => ((u.1, e0, e0) : U3)).Nodup := by
      have q : ((dueL n c tab sec).map fun u => ((u.1, e0, e0) : U3)) = ((dueL n c tab sec).map (·.1)).map fun p => ((p, e0, e0) : U3) := by rw [List.map_map]; rfl
      rw [q]
      exact nd_map (fun a _ b _ e => by injection e) ndd
    have pmA : (cellsU ((areaOf ((unlikeH h1 h2).map (·.1))).map fun b => (b, e0, e0))).Perm ((dueL n c tab sec).map fun u => ((u.1, e0, e0) : U3)) := nodup_perm ndA ndB fun u => by
      unfold cellsU
      rw [List.mem_flatMap, List.mem_map]
      constructor
      · rintro ⟨p, hp, hu⟩
        obtain ⟨b, hb, rfl⟩ := List.mem_map.mp hp
        obtain ⟨m, q, hm, hq, _⟩ := finA b hb
        obtain ⟨e, i⟩ := (mem_blkU (p := (b, e0, e0)) hm hq).mp hu
        obtain ⟨u', hu', e'⟩ := (hasU u.1.1 u.1.2).mp (((form.mem b).mp hb).inS i)
        refine ⟨u', hu', ?_⟩
        rw [e']
        exact Prod.ext rfl e.symm
      · rintro ⟨u', hu', rfl⟩
        have z := (hasU u'.1.1 u'.1.2).mpr ⟨u', hu', rfl⟩
        rw [← form.has, hasC_iff] at z
        obtain ⟨b, hb, i⟩ := z
        obtain ⟨m, q, hm, hq, _⟩ := finA b hb
        exact ⟨(b, e0, e0), List.mem_map.mpr ⟨b, hb, rfl⟩, (mem_blkU (p := (b, e0, e0)) hm hq).mpr ⟨rfl, i⟩⟩
    have lA := pmA.length_eq
    rw [List.length_map] at lA
    rw [← lA]
    have sum : ∀ l : List Blk, (∀ b ∈ l, ∃ m q, b.b = some m ∧ b.r = some q ∧ b.t ≤ m ∧ b.l ≤ q) → (l.map fun b => (sizeB b).getD 0).sum = ((cellsU (l.map fun b => (b, e0, e0))).length : Int) := by
      intro l
      induction l with
      | nil => intro _; rfl
      | cons b l ih =>
        intro h
        obtain ⟨m, q, hm, hq, z1, z2⟩ := h b (List.mem_cons_self ..)
        have e : cellsU ((b :: l).map fun b => (b, e0, e0)) = blkU (b, e0, e0) ++ cellsU (l.map fun b => (b, e0, e0)) := rfl
        rw [List.map_cons, List.sum_cons, ih fun x hx => h x (List.mem_cons_of_mem _ hx), e, List.length_append, blkU_len, Int.natCast_add, Int.natCast_mul]
        have es : (sizeB b).getD 0 = (m - b.t + 1) * (q - b.l + 1) := by
          unfold sizeB
          rw [hm, hq]
          rfl
        rw [es]
        show _ = (((b.b.getD 0) + 1 - b.t).toNat : Int) * (((b.r.getD 0) + 1 - b.l).toNat : Int) + _
        rw [hm, hq]
        simp only [Option.getD_some]
        have t1 : ((m + 1 - b.t).toNat : Int) = m - b.t + 1 := by omega
        have t2 : ((q + 1 - b.l).toNat : Int) = q - b.l + 1 := by omega
        rw [t1, t2]
    exact sum _ fun b hb => by
      obtain ⟨m, q, hm, hq, z⟩ := finA b hb
      exact ⟨m, q, hm, hq, z.2.1, z.2.2.2.2.1⟩
  · rw [form.has]
    exact (hasU _ _).mpr ⟨u, hu, rfl⟩
theorem mathL : MathL ShT where
  fit s := s.1
  full s := s.2.ne
  fits hn hc z zr v := tab_fits hn hc z zr v
  filled hR _ hr _ hk hn hc := sh_filled hR hr hk hn hc
  cells := by
    intro h tab r k n c s hR hn hc i j row x h1 h2
    have q := vals_head s.2 (a := n + (i : Int)) (b := c + (j : Int)) (by omega) (by omega)
    rw [cellT_in (tabAt_iff.mpr ⟨i, j, row, h1, h2, rfl, rfl⟩)] at q
    exact q
  below := by
    intro h tab r k n c s hR hn hc
    have q := vals_head s.2 (a := n + (tab.length : Int)) (b := c) (by omega) hc
    rw [cell_below] at q
    exact q
  beside := by
    intro h tab r k n c s hR hn hc
    have q := vals_head s.2 (a := n) (b := c + (k : Int)) hn (by omega)
    rw [cell_beside hR] at q
    exact q
  pairs s _ hn hc := sh_pairs s hn hc
  found := by
    intro tab r k n c _ p hp
    obtain ⟨s, t, m, rfl, _⟩ := mem_lawFound hp
    exact ⟨_, _, rfl, rfl⟩
  told s _ hn hc := sh_told s hn hc
  wher s hR hn hc hr hk v _ hv := sh_wher s hR hn hc hr hk v hv
  hold s := sh_hold s.2
  set s hR hn hc hr hk hi hj hv := sh_set s hR hn hc hr hk hi hj hv
  unl s1 s2 hR hS hn hc hn2 hc2 _ hr _ hk _ := sh_unl s1 s2 hR hS hn hc hn2 hc2 hr hk
end CB
end
section
set_option maxHeartbeats 4000000
/-! the facts that the head tells; the law from them -/
namespace CB
open PySem PySem.Spec PyProof.Rows L2 CBM
def dWhole : He.DefD := ⟨("is_whole", none), "is_whole", "is_whole", defArgs sWhole, defBody sWhole, defScope sWhole, [], []⟩
def dCount : He.DefD := ⟨("is_count", none), "is_count", "is_count", defArgs sCount, defBody sCount, defScope sCount, [], []⟩
def dCell : He.DefD := ⟨("is_cell", none), "is_cell", "is_cell", defArgs sCell, defBody sCell, defScope sCell, [], []⟩
def dChkCell : He.DefD := ⟨("checked_cell", none), "checked_cell", "checked_cell", defArgs sChkCell, defBody sChkCell, defScope sChkCell, [], []⟩
def dEnd : He.DefD := ⟨("is_end", none), "is_end", "is_end", defArgs sEnd, defBody sEnd, defScope sEnd, [], []⟩
def dAt : He.DefD := ⟨("is_at", none), "is_at", "is_at", defArgs sAt, defBody sAt, defScope sAt, [], []⟩
def dStr : He.DefD := ⟨("stretches", none), "stretches", "stretches", defArgs sStr, defBody sStr, defScope sStr, [], []⟩
def dCuts : He.DefD := ⟨("cuts_of", none), "cuts_of", "cuts_of", defArgs sCuts, defBody sCuts, defScope sCuts, [], []⟩
def dWith : He.DefD := ⟨("with_run", none), "with_run", "with_run", defArgs sWith, defBody sWith, defScope sWith, [], []⟩
def dRuns : He.DefD := ⟨("runs_by", none), "runs_by", "runs_by", defArgs sRuns, defBody sRuns, defScope sRuns, [], []⟩
def dCols : He.DefD := ⟨("columns_at", none), "columns_at", "columns_at", defArgs sCols, defBody sCols, defScope sCols, [], []⟩
def dBands : He.DefD := ⟨("bands_by", none), "bands_by", "bands_by", defArgs sBands, defBody sBands, defScope sBands, [], []⟩
def dForm : He.DefD := ⟨("form_of", none), "form_of", "form_of", defArgs sForm, defBody sForm, defScope sForm, [], []⟩
def dFirst : He.DefD := ⟨("first_cell", none), "first_cell", "first_cell", defArgs sFirst, defBody sFirst, defScope sFirst, [], []⟩
def dEither : He.DefD := ⟨("either", none), "either", "either", defArgs sEither, defBody sEither, defScope sEither, [], []⟩
def dBoth : He.DefD := ⟨("both", none), "both", "both", defArgs sBoth, defBody sBoth, defScope sBoth, [], []⟩
def dAlone : He.DefD := ⟨("one_alone", none), "one_alone", "one_alone", defArgs sAlone, defBody sAlone, defScope sAlone, [], []⟩
def dChkB : He.DefD := ⟨("checked_blocks", none), "checked_blocks", "checked_blocks", defArgs sChkB, defBody sChkB, defScope sChkB, [], []⟩
def dChkA : He.DefD := ⟨("checked_area", none), "checked_area", "checked_area", defArgs sChkA, defBody sChkA, defScope sChkA, [], []⟩
def dChkV : He.DefD := ⟨("check_value", none), "check_value", "check_value", defArgs sChkV, defBody sChkV, defScope sChkV, [], []⟩
def dChkS : He.DefD := ⟨("check_sheet", none), "check_sheet", "check_sheet", defArgs sChkS, defBody sChkS, defScope sChkS, [], []⟩
def dFPart : He.DefD := ⟨("first_of_part", none), "first_of_part", "first_of_part", defArgs sFPart, defBody sFPart, defScope sFPart, [], []⟩
def dUnl : He.DefD := ⟨("unlike", none), "unlike", "unlike", defArgs sUnl, defBody sUnl, defScope sUnl, [], []⟩
def dUnlA : He.DefD := ⟨("unlike_area", none), "unlike_area", "unlike_area", defArgs sUnlA, defBody sUnlA, defScope sUnlA, [], []⟩
def dCellAt : He.DefD := ⟨("_law_cell_at", none), "_law_cell_at", "_law_cell_at", defArgs sCellAt, defBody sCellAt, defScope sCellAt, [], []⟩
def dWell : He.DefD := ⟨("_law_well", none), "_law_well", "_law_well", defArgs sWell, defBody sWell, defScope sWell, [], []⟩
def dDraw : He.DefD := ⟨("_law_draw", none), "_law_draw", "_law_draw", defArgs sDraw, defBody sDraw, defScope sDraw, [], []⟩
def dTable : He.DefD := ⟨("_law_table", none), "_law_table", "_law_table", defArgs sTable, defBody sTable, defScope sTable, [], []⟩
def dLArea : He.DefD := ⟨("_law_area", none), "_law_area", "_law_area", defArgs sLArea, defBody sLArea, defScope sLArea, [], []⟩
def dLRuns : He.DefD := ⟨("_law_runs", none), "_law_runs", "_law_runs", defArgs sLRuns, defBody sLRuns, defScope sLRuns, [], []⟩
def dLPairs : He.DefD := ⟨("_law_pairs", none), "_law_pairs", "_law_pairs", defArgs sLPairs, defBody sLPairs, defScope sLPairs, [], []⟩
def dLTold : He.DefD := ⟨("_law_told", none), "_law_told", "_law_told", defArgs sLTold, defBody sLTold, defScope sLTold, [], []⟩
def dLFill : He.DefD := ⟨("_law_filled", none), "_law_filled", "_law_filled", defArgs sLFill, defBody sLFill, defScope sLFill, [], []⟩
def dLVals : He.DefD := ⟨("_law_values", none), "_law_values", "_law_values", defArgs sLVals, defBody sLVals, defScope sLVals, [], []⟩
def dLCells : He.DefD := ⟨("_law_cells_right", none), "_law_cells_right", "_law_cells_right", defArgs sLCells, defBody sLCells, defScope sLCells, [], []⟩
def dLUnl : He.DefD := ⟨("_law_unlike_right", none), "_law_unlike_right", "_law_unlike_right", defArgs sLUnl, defBody sLUnl, defScope sLUnl, [], []⟩
def dLaw : He.DefD := ⟨("law", none), "law", "law", defArgs sLaw, defBody sLaw, defScope sLaw, [], []⟩
def dBInit : He.DefD := ⟨("Block", some "__init__"), "__init__", "Block.__init__", defArgs sBInit, defBody sBInit, defScope sBInit, [.int 1, .int 1, .non, .non], []⟩
def dBEq : He.DefD := ⟨("Block", some "__eq__"), "__eq__", "Block.__eq__", defArgs sBEq, defBody sBEq, defScope sBEq, [], []⟩
def dBHas : He.DefD := ⟨("Block", some "has"), "has", "Block.has", defArgs sBHas, defBody sBHas, defScope sBHas, [], []⟩
def dBSize : He.DefD := ⟨("Block", some "size"), "size", "Block.size", defArgs sBSize, defBody sBSize, defScope sBSize, [], []⟩
def dAInit : He.DefD := ⟨("Area", some "__init__"), "__init__", "Area.__init__", defArgs sAInit, defBody sAInit, defScope sAInit, [.non], []⟩
def dAEq : He.DefD := ⟨("Area", some "__eq__"), "__eq__", "Area.__eq__", defArgs sAEq, defBody sAEq, defScope sAEq, [], []⟩
def dALen : He.DefD := ⟨("Area", some "__len__"), "__len__", "Area.__len__", defArgs sALen, defBody sALen, defScope sALen, [], []⟩
def dABlocks : He.DefD := ⟨("Area", some "blocks"), "blocks", "Area.blocks", defArgs sABlocks, defBody sABlocks, defScope sABlocks, [], []⟩
def dAHas : He.DefD := ⟨("Area", some "has"), "has", "Area.has", defArgs sAHas, defBody sAHas, defScope sAHas, [], []⟩
def dASize : He.DefD := ⟨("Area", some "size"), "size", "Area.size", defArgs sASize, defBody sASize, defScope sASize, [], []⟩
def dABy : He.DefD := ⟨("Area", some "by"), "by", "Area.by", defArgs sABy, defBody sABy, defScope sABy, [], []⟩
def dAMet : He.DefD := ⟨("Area", some "met"), "met", "Area.met", defArgs sAMet, defBody sAMet, defScope sAMet, [], []⟩
def dAJoined : He.DefD := ⟨("Area", some "joined"), "joined", "Area.joined", defArgs sAJoined, defBody sAJoined, defScope sAJoined, [], []⟩
def dAWithout : He.DefD := ⟨("Area", some "without"), "without", "Area.without", defArgs sAWithout, defBody sAWithout, defScope sAWithout, [], []⟩
def dSInit : He.DefD := ⟨("Sheet", some "__init__"), "__init__", "Sheet.__init__", defArgs sSInit, defBody sSInit, defScope sSInit, [], []⟩
def dSLen : He.DefD := ⟨("Sheet", some "__len__"), "__len__", "Sheet.__len__", defArgs sSLen, defBody sSLen, defScope sSLen, [], []⟩
def dFill : He.DefD := ⟨("Sheet", some "fill"), "fill", "Sheet.fill", defArgs sFill, defBody sFill, defScope sFill, [], []⟩
def dHold : He.DefD := ⟨("Sheet", some "hold"), "hold", "Sheet.hold", defArgs sHold, defBody sHold, defScope sHold, [], []⟩
def dValue : He.DefD := ⟨("Sheet", some "value"), "value", "Sheet.value", defArgs sValue, defBody sValue, defScope sValue, [], []⟩
def dWhere : He.DefD := ⟨("Sheet", some "where"), "where", "Sheet.where", defArgs sWhere, defBody sWhere, defScope sWhere, [], []⟩
def dTold : He.DefD := ⟨("Sheet", some "told"), "told", "Sheet.told", defArgs sTold, defBody sTold, defScope sTold, [], []⟩
def dPairs : He.DefD := ⟨("Sheet", some "pairs"), "pairs", "Sheet.pairs", defArgs sPairs, defBody sPairs, defScope sPairs, [], []⟩
def dTwin : He.DefD := ⟨("Sheet", some "twin"), "twin", "Sheet.twin", defArgs sTwin, defBody sTwin, defScope sTwin, [], []⟩
def fnsA : List He.DefD := [dWhole, dCount, dCell, dChkCell, dEnd, dAt, dStr, dCuts, dWith, dRuns, dCols, dBands, dForm, dFirst, dEither, dBoth, dAlone, dChkB, dChkA, dChkV, dChkS, dFPart, dUnl, dUnlA, dCellAt, dWell, dDraw, dTable, dLArea, dLRuns]
def fnsB : List He.DefD := [dLPairs, dLTold, dLFill, dLVals, dLCells, dLUnl, dLaw, dBInit, dBEq, dBHas, dBSize, dAInit, dAEq, dALen, dABlocks, dAHas, dASize, dABy, dAMet, dAJoined, dAWithout, dSInit, dSLen, dFill, dHold, dValue, dWhere, dTold, dPairs, dTwin]
def fns : List He.DefD := fnsA ++ fnsB
def facts0 : List He.Fa := [.glo "is_whole", .glo "is_count", .glo "is_cell", .glo "checked_cell", .glo "is_end", .glo "is_at", .glo "stretches", .glo "cuts_of", .glo "with_run", .glo "runs_by", .glo "columns_at", .glo "bands_by", .glo "form_of", .glo "first_cell", .glo "either", .glo "both", .glo "one_alone", .glo "checked_blocks", .glo "checked_area", .glo "check_value", .glo "check_sheet", .glo "first_of_part", .glo "unlike", .glo "unlike_area", .glo "_law_cell_at", .glo "_law_well", .glo "_law_draw", .glo "_law_table", .glo "_law_area", .glo "_law_runs"]
def facts1 : List He.Fa := [.glo "_law_pairs", .glo "_law_told", .glo "_law_filled", .glo "_law_values", .glo "_law_cells_right", .glo "_law_unlike_right", .glo "law", .glo "Block", .glo "Area", .glo "Sheet", .free "isinstance", .free "int", .free "bool", .free "tuple", .free "str", .free "list", .free "len", .free "all", .free "any", .free "set", .free "sorted", .free "enumerate", .free "sum", .free "range", .str "SIGNS" "abcdefghijklmnopqrstuvwxyz0123456789 ", .int "MOST" 40, .cls "Block", .mkr "Block", .keep "Block", .cls "Area"]
def facts2 : List He.Fa := [.mkr "Area", .keep "Area", .cls "Sheet", .mkr "Sheet", .keep "Sheet", .noat "Block" "top", .noat "Block" "left", .noat "Block" "bottom", .noat "Block" "right", .noat "Area" "form", .noat "Sheet" "held", .meth "Block" "__eq__", .meth "Block" "has", .meth "Block" "size", .meth "Area" "__eq__", .meth "Area" "__len__", .meth "Area" "blocks", .meth "Area" "has", .meth "Area" "size", .meth "Area" "by", .meth "Area" "met", .meth "Area" "joined", .meth "Area" "without", .meth "Sheet" "__len__", .meth "Sheet" "fill", .meth "Sheet" "hold", .meth "Sheet" "value", .meth "Sheet" "where", .meth "Sheet" "told", .meth "Sheet" "pairs"]
def facts3 : List He.Fa := [.meth "Sheet" "twin"]
def facts : List He.Fa := facts0 ++ facts1 ++ facts2 ++ facts3
def insB (K : PySem.W.Frag) (C : Addr) : Bool := He.eqO (PySem.W.findIn K (.ref C) "__class__") (some (some (.builtin "object.__class__"))) && (He.eqO (PySem.W.specialIn K (.builtin "object.__class__") "__get__") (some (some (.builtin "getset_descriptor.__get__"))) && (decide (PySem.W.takesIn K (.builtin "object.__class__") = some true) && (decide (PySem.W.mroIn K C (.type "object") = some true) && decide (PySem.W.kitOne K (.ref C) (.ref C) = some true))))
theorem insB_ok {K : PySem.W.Frag} {C : Addr} (c : Cls K C) (h : insB K C = true) : C8.InsC K C := by
  obtain ⟨h1, h⟩ := He.ba h
  obtain ⟨h2, h⟩ := He.ba h
  obtain ⟨h3, h⟩ := He.ba h
  obtain ⟨h4, h5⟩ := He.ba h
  exact ⟨c, He.eqO_ok h1, He.eqO_ok h2, of_decide_eq_true h3, of_decide_eq_true h4, of_decide_eq_true h5⟩
def more (K : PySem.W.Frag) : Bool := insB K (He.ga K "Block") && (insB K (He.ga K "Area") && (insB K (He.ga K "Sheet") && He.eqO (PySem.W.findIn K (.ref (He.ga K "Area")) "__ne__") (some (some (.builtin "object.__ne__")))))
theorem fn_ne {K : PySem.W.Frag} {x x' q q' : Str} {ps ps' : Arguments} {b b' : List Stmt} {sc sc' : Scope} {dv dv' : List V} {kw kw' : List (Str × V)} {f f' : Addr} {fd fd' : FuncData} (F : FunD K x q ps b sc dv kw f fd) (F' : FunD K x' q' ps' b' sc' dv' kw' f' fd') (ne : x ≠ x') : f ≠ f' := by
  rintro rfl
  obtain ⟨oc, od, dV, kV, doc, pm, an, cdv, ct, osl, rfl, lk, _⟩ := F.ex
  obtain ⟨oc', od', dV', kV', doc', pm', an', cdv', ct', osl', rfl, lk', _⟩ := F'.ex
  rw [lk] at lk'
  injection lk' with lk'
  injection lk' with _ _ lk' _
  injection lk' with lk'
  injection lk' with lk' _
  exact ne lk'
def keepS (fe fb fa : Addr) : Addr → Option Sp := fun f => if f = fe then some (spKeep kOr) else if f = fb then some (spKeep kAnd) else if f = fa then some (spKeep kSub) else none
section
variable {P : Program} {w : World} {K : PySem.W.Frag} {h : Heap} {mg : Str → Option Value}
theorem law_facts {f : Addr} (X : K.In h) (G : h.Ns mainGlobals mg) (hfa : mg ("law" : Str) = some (.ref f)) (c : He.SaysD facts fns K) (hm : more K = true) :
    ∃ fd : FuncData, (∀ (s : Shared) (v : Value), BindsTo s fd ⟨[v], []⟩ [("_law_script", v)]) ∧ ∀ base : Heap, K.In base → base.Ns mainGlobals mg → FnOk P w K mg base C8.CX0 14 f fd ["_law_script"] (spLaw K) := by
  obtain ⟨fdWhole, FWhole⟩ := c.def_ 0 (d := dWhole) rfl
  have FWhole : FnD K "is_whole" "is_whole" sWhole [] (He.ga K "is_whole") fdWhole := FWhole
  obtain ⟨fdCount, FCount⟩ := c.def_ 1 (d := dCount) rfl
  have FCount : FnD K "is_count" "is_count" sCount [] (He.ga K "is_count") fdCount := FCount
  obtain ⟨fdCell, FCell⟩ := c.def_ 2 (d := dCell) rfl
  have FCell : FnD K "is_cell" "is_cell" sCell [] (He.ga K "is_cell") fdCell := FCell
  obtain ⟨fdChkCell, FChkCell⟩ := c.def_ 3 (d := dChkCell) rfl
  have FChkCell : FnD K "checked_cell" "checked_cell" sChkCell [] (He.ga K "checked_cell") fdChkCell := FChkCell
  obtain ⟨fdEnd, FEnd⟩ := c.def_ 4 (d := dEnd) rfl
  have FEnd : FnD K "is_end" "is_end" sEnd [] (He.ga K "is_end") fdEnd := FEnd
  obtain ⟨fdAt, FAt⟩ := c.def_ 5 (d := dAt) rfl
  have FAt : FnD K "is_at" "is_at" sAt [] (He.ga K "is_at") fdAt := FAt
  obtain ⟨fdStr, FStr⟩ := c.def_ 6 (d := dStr) rfl
  have FStr : FnD K "stretches" "stretches" sStr [] (He.ga K "stretches") fdStr := FStr
  obtain ⟨fdCuts, FCuts⟩ := c.def_ 7 (d := dCuts) rfl
  have FCuts : FnD K "cuts_of" "cuts_of" sCuts [] (He.ga K "cuts_of") fdCuts := FCuts
  obtain ⟨fdWith, FWith⟩ := c.def_ 8 (d := dWith) rfl
  have FWith : FnD K "with_run" "with_run" sWith [] (He.ga K "with_run") fdWith := FWith
  obtain ⟨fdRuns, FRuns⟩ := c.def_ 9 (d := dRuns) rfl
  have FRuns : FnD K "runs_by" "runs_by" sRuns [] (He.ga K "runs_by") fdRuns := FRuns
  obtain ⟨fdCols, FCols⟩ := c.def_ 10 (d := dCols) rfl
  have FCols : FnD K "columns_at" "columns_at" sCols [] (He.ga K "columns_at") fdCols := FCols
  obtain ⟨fdBands, FBands⟩ := c.def_ 11 (d := dBands) rfl
  have FBands : FnD K "bands_by" "bands_by" sBands [] (He.ga K "bands_by") fdBands := FBands
  obtain ⟨fdForm, FForm⟩ := c.def_ 12 (d := dForm) rfl
  have FForm : FnD K "form_of" "form_of" sForm [] (He.ga K "form_of") fdForm := FForm
  obtain ⟨fdFirst, FFirst⟩ := c.def_ 13 (d := dFirst) rfl
  have FFirst : FnD K "first_cell" "first_cell" sFirst [] (He.ga K "first_cell") fdFirst := FFirst
  obtain ⟨fdEither, FEither⟩ := c.def_ 14 (d := dEither) rfl
  have FEither : FnD K "either" "either" sEither [] (He.ga K "either") fdEither := FEither
  obtain ⟨fdBoth, FBoth⟩ := c.def_ 15 (d := dBoth) rfl
  have FBoth : FnD K "both" "both" sBoth [] (He.ga K "both") fdBoth := FBoth
  obtain ⟨fdAlone, FAlone⟩ := c.def_ 16 (d := dAlone) rfl
  have FAlone : FnD K "one_alone" "one_alone" sAlone [] (He.ga K "one_alone") fdAlone := FAlone
  obtain ⟨fdChkB, FChkB⟩ := c.def_ 17 (d := dChkB) rfl
  have FChkB : FnD K "checked_blocks" "checked_blocks" sChkB [] (He.ga K "checked_blocks") fdChkB := FChkB
  obtain ⟨fdChkA, FChkA⟩ := c.def_ 18 (d := dChkA) rfl
  have FChkA : FnD K "checked_area" "checked_area" sChkA [] (He.ga K "checked_area") fdChkA := FChkA
  obtain ⟨fdChkV, FChkV⟩ := c.def_ 19 (d := dChkV) rfl
  have FChkV : FnD K "check_value" "check_value" sChkV [] (He.ga K "check_value") fdChkV := FChkV
  obtain ⟨fdChkS, FChkS⟩ := c.def_ 20 (d := dChkS) rfl
  have FChkS : FnD K "check_sheet" "check_sheet" sChkS [] (He.ga K "check_sheet") fdChkS := FChkS
  obtain ⟨fdFPart, FFPart⟩ := c.def_ 21 (d := dFPart) rfl
  have FFPart : FnD K "first_of_part" "first_of_part" sFPart [] (He.ga K "first_of_part") fdFPart := FFPart
  obtain ⟨fdUnl, FUnl⟩ := c.def_ 22 (d := dUnl) rfl
  have FUnl : FnD K "unlike" "unlike" sUnl [] (He.ga K "unlike") fdUnl := FUnl
  obtain ⟨fdUnlA, FUnlA⟩ := c.def_ 23 (d := dUnlA) rfl
  have FUnlA : FnD K "unlike_area" "unlike_area" sUnlA [] (He.ga K "unlike_area") fdUnlA := FUnlA
  obtain ⟨fdCellAt, FCellAt⟩ := c.def_ 24 (d := dCellAt) rfl
  have FCellAt : FnD K "_law_cell_at" "_law_cell_at" sCellAt [] (He.ga K "_law_cell_at") fdCellAt := FCellAt
  obtain ⟨fdWell, FWell⟩ := c.def_ 25 (d := dWell) rfl
  have FWell : FnD K "_law_well" "_law_well" sWell [] (He.ga K "_law_well") fdWell := FWell
  obtain ⟨fdDraw, FDraw⟩ := c.def_ 26 (d := dDraw) rfl
  have FDraw : FnD K "_law_draw" "_law_draw" sDraw [] (He.ga K "_law_draw") fdDraw := FDraw
  obtain ⟨fdTable, FTable⟩ := c.def_ 27 (d := dTable) rfl
  have FTable : FnD K "_law_table" "_law_table" sTable [] (He.ga K "_law_table") fdTable := FTable
  obtain ⟨fdLArea, FLArea⟩ := c.def_ 28 (d := dLArea) rfl
  have FLArea : FnD K "_law_area" "_law_area" sLArea [] (He.ga K "_law_area") fdLArea := FLArea
  obtain ⟨fdLRuns, FLRuns⟩ := c.def_ 29 (d := dLRuns) rfl
  have FLRuns : FnD K "_law_runs" "_law_runs" sLRuns [] (He.ga K "_law_runs") fdLRuns := FLRuns
  obtain ⟨fdLPairs, FLPairs⟩ := c.def_ 30 (d := dLPairs) rfl
  have FLPairs : FnD K "_law_pairs" "_law_pairs" sLPairs [] (He.ga K "_law_pairs") fdLPairs := FLPairs
  obtain ⟨fdLTold, FLTold⟩ := c.def_ 31 (d := dLTold) rfl
  have FLTold : FnD K "_law_told" "_law_told" sLTold [] (He.ga K "_law_told") fdLTold := FLTold
  obtain ⟨fdLFill, FLFill⟩ := c.def_ 32 (d := dLFill) rfl
  have FLFill : FnD K "_law_filled" "_law_filled" sLFill [] (He.ga K "_law_filled") fdLFill := FLFill
  obtain ⟨fdLVals, FLVals⟩ := c.def_ 33 (d := dLVals) rfl
  have FLVals : FnD K "_law_values" "_law_values" sLVals [] (He.ga K "_law_values") fdLVals := FLVals
  obtain ⟨fdLCells, FLCells⟩ := c.def_ 34 (d := dLCells) rfl
  have FLCells : FnD K "_law_cells_right" "_law_cells_right" sLCells [] (He.ga K "_law_cells_right") fdLCells := FLCells
  obtain ⟨fdLUnl, FLUnl⟩ := c.def_ 35 (d := dLUnl) rfl
  have FLUnl : FnD K "_law_unlike_right" "_law_unlike_right" sLUnl [] (He.ga K "_law_unlike_right") fdLUnl := FLUnl
  obtain ⟨fdLaw, FLaw⟩ := c.def_ 36 (d := dLaw) rfl
  have FLaw : FnD K "law" "law" sLaw [] (He.ga K "law") fdLaw := FLaw
  obtain ⟨fdBInit, FBInit⟩ := c.def_ 37 (d := dBInit) rfl
  have FBInit : FnD K "__init__" "Block.__init__" sBInit dvB (He.ma K (He.ga K "Block") "__init__") fdBInit := FBInit
  obtain ⟨fdBEq, FBEq⟩ := c.def_ 38 (d := dBEq) rfl
  have FBEq : FnD K "__eq__" "Block.__eq__" sBEq [] (He.ma K (He.ga K "Block") "__eq__") fdBEq := FBEq
  obtain ⟨fdBHas, FBHas⟩ := c.def_ 39 (d := dBHas) rfl
  have FBHas : FnD K "has" "Block.has" sBHas [] (He.ma K (He.ga K "Block") "has") fdBHas := FBHas
  obtain ⟨fdBSize, FBSize⟩ := c.def_ 40 (d := dBSize) rfl
  have FBSize : FnD K "size" "Block.size" sBSize [] (He.ma K (He.ga K "Block") "size") fdBSize := FBSize
  obtain ⟨fdAInit, FAInit⟩ := c.def_ 41 (d := dAInit) rfl
  have FAInit : FnD K "__init__" "Area.__init__" sAInit [.non] (He.ma K (He.ga K "Area") "__init__") fdAInit := FAInit
  obtain ⟨fdAEq, FAEq⟩ := c.def_ 42 (d := dAEq) rfl
  have FAEq : FnD K "__eq__" "Area.__eq__" sAEq [] (He.ma K (He.ga K "Area") "__eq__") fdAEq := FAEq
  obtain ⟨fdALen, FALen⟩ := c.def_ 43 (d := dALen) rfl
  have FALen : FnD K "__len__" "Area.__len__" sALen [] (He.ma K (He.ga K "Area") "__len__") fdALen := FALen
  obtain ⟨fdABlocks, FABlocks⟩ := c.def_ 44 (d := dABlocks) rfl
  have FABlocks : FnD K "blocks" "Area.blocks" sABlocks [] (He.ma K (He.ga K "Area") "blocks") fdABlocks := FABlocks
  obtain ⟨fdAHas, FAHas⟩ := c.def_ 45 (d := dAHas) rfl
  have FAHas : FnD K "has" "Area.has" sAHas [] (He.ma K (He.ga K "Area") "has") fdAHas := FAHas
  obtain ⟨fdASize, FASize⟩ := c.def_ 46 (d := dASize) rfl
  have FASize : FnD K "size" "Area.size" sASize [] (He.ma K (He.ga K "Area") "size") fdASize := FASize
  obtain ⟨fdABy, FABy⟩ := c.def_ 47 (d := dABy) rfl
  have FABy : FnD K "by" "Area.by" sABy [] (He.ma K (He.ga K "Area") "by") fdABy := FABy
  obtain ⟨fdAMet, FAMet⟩ := c.def_ 48 (d := dAMet) rfl
  have FAMet : FnD K "met" "Area.met" sAMet [] (He.ma K (He.ga K "Area") "met") fdAMet := FAMet
  obtain ⟨fdAJoined, FAJoined⟩ := c.def_ 49 (d := dAJoined) rfl
  have FAJoined : FnD K "joined" "Area.joined" sAJoined [] (He.ma K (He.ga K "Area") "joined") fdAJoined := FAJoined
  obtain ⟨fdAWithout, FAWithout⟩ := c.def_ 50 (d := dAWithout) rfl
  have FAWithout : FnD K "without" "Area.without" sAWithout [] (He.ma K (He.ga K "Area") "without") fdAWithout := FAWithout
  obtain ⟨fdSInit, FSInit⟩ := c.def_ 51 (d := dSInit) rfl
  have FSInit : FnD K "__init__" "Sheet.__init__" sSInit [] (He.ma K (He.ga K "Sheet") "__init__") fdSInit := FSInit
  obtain ⟨fdSLen, FSLen⟩ := c.def_ 52 (d := dSLen) rfl
  have FSLen : FnD K "__len__" "Sheet.__len__" sSLen [] (He.ma K (He.ga K "Sheet") "__len__") fdSLen := FSLen
  obtain ⟨fdFill, FFill⟩ := c.def_ 53 (d := dFill) rfl
  have FFill : FnD K "fill" "Sheet.fill" sFill [] (He.ma K (He.ga K "Sheet") "fill") fdFill := FFill
  obtain ⟨fdHold, FHold⟩ := c.def_ 54 (d := dHold) rfl
  have FHold : FnD K "hold" "Sheet.hold" sHold [] (He.ma K (He.ga K "Sheet") "hold") fdHold := FHold
  obtain ⟨fdValue, FValue⟩ := c.def_ 55 (d := dValue) rfl
  have FValue : FnD K "value" "Sheet.value" sValue [] (He.ma K (He.ga K "Sheet") "value") fdValue := FValue
  obtain ⟨fdWhere, FWhere⟩ := c.def_ 56 (d := dWhere) rfl
  have FWhere : FnD K "where" "Sheet.where" sWhere [] (He.ma K (He.ga K "Sheet") "where") fdWhere := FWhere
  obtain ⟨fdTold, FTold⟩ := c.def_ 57 (d := dTold) rfl
  have FTold : FnD K "told" "Sheet.told" sTold [] (He.ma K (He.ga K "Sheet") "told") fdTold := FTold
  obtain ⟨fdPairs, FPairs⟩ := c.def_ 58 (d := dPairs) rfl
  have FPairs : FnD K "pairs" "Sheet.pairs" sPairs [] (He.ma K (He.ga K "Sheet") "pairs") fdPairs := FPairs
  obtain ⟨fdTwin, FTwin⟩ := c.def_ 59 (d := dTwin) rfl
  have FTwin : FnD K "twin" "Sheet.twin" sTwin [] (He.ma K (He.ga K "Sheet") "twin") fdTwin := FTwin
  have gWhole := He.glo_ok X G (c.fact 0 (f := .glo "is_whole") rfl)
  have gCount := He.glo_ok X G (c.fact 1 (f := .glo "is_count") rfl)
  have gCell := He.glo_ok X G (c.fact 2 (f := .glo "is_cell") rfl)
  have gChkCell := He.glo_ok X G (c.fact 3 (f := .glo "checked_cell") rfl)
  have gEnd := He.glo_ok X G (c.fact 4 (f := .glo "is_end") rfl)
  have gAt := He.glo_ok X G (c.fact 5 (f := .glo "is_at") rfl)
  have gStr := He.glo_ok X G (c.fact 6 (f := .glo "stretches") rfl)
  have gCuts := He.glo_ok X G (c.fact 7 (f := .glo "cuts_of") rfl)
  have gWith := He.glo_ok X G (c.fact 8 (f := .glo "with_run") rfl)
  have gRuns := He.glo_ok X G (c.fact 9 (f := .glo "runs_by") rfl)
  have gCols := He.glo_ok X G (c.fact 10 (f := .glo "columns_at") rfl)
  have gBands := He.glo_ok X G (c.fact 11 (f := .glo "bands_by") rfl)
  have gForm := He.glo_ok X G (c.fact 12 (f := .glo "form_of") rfl)
  have gFirst := He.glo_ok X G (c.fact 13 (f := .glo "first_cell") rfl)
  have gEither := He.glo_ok X G (c.fact 14 (f := .glo "either") rfl)
  have gBoth := He.glo_ok X G (c.fact 15 (f := .glo "both") rfl)
  have gAlone := He.glo_ok X G (c.fact 16 (f := .glo "one_alone") rfl)
  have gChkB := He.glo_ok X G (c.fact 17 (f := .glo "checked_blocks") rfl)
  have gChkA := He.glo_ok X G (c.fact 18 (f := .glo "checked_area") rfl)
  have gChkV := He.glo_ok X G (c.fact 19 (f := .glo "check_value") rfl)
  have gChkS := He.glo_ok X G (c.fact 20 (f := .glo "check_sheet") rfl)
  have gFPart := He.glo_ok X G (c.fact 21 (f := .glo "first_of_part") rfl)
  have gUnl := He.glo_ok X G (c.fact 22 (f := .glo "unlike") rfl)
  have gUnlA := He.glo_ok X G (c.fact 23 (f := .glo "unlike_area") rfl)
  have gCellAt := He.glo_ok X G (c.fact 24 (f := .glo "_law_cell_at") rfl)
  have gWell := He.glo_ok X G (c.fact 25 (f := .glo "_law_well") rfl)
  have gDraw := He.glo_ok X G (c.fact 26 (f := .glo "_law_draw") rfl)
  have gTable := He.glo_ok X G (c.fact 27 (f := .glo "_law_table") rfl)
  have gLArea := He.glo_ok X G (c.fact 28 (f := .glo "_law_area") rfl)
  have gLRuns := He.glo_ok X G (c.fact 29 (f := .glo "_law_runs") rfl)
  have gLPairs := He.glo_ok X G (c.fact 30 (f := .glo "_law_pairs") rfl)
  have gLTold := He.glo_ok X G (c.fact 31 (f := .glo "_law_told") rfl)
  have gLFill := He.glo_ok X G (c.fact 32 (f := .glo "_law_filled") rfl)
  have gLVals := He.glo_ok X G (c.fact 33 (f := .glo "_law_values") rfl)
  have gLCells := He.glo_ok X G (c.fact 34 (f := .glo "_law_cells_right") rfl)
  have gLUnl := He.glo_ok X G (c.fact 35 (f := .glo "_law_unlike_right") rfl)
  have gLaw := He.glo_ok X G (c.fact 36 (f := .glo "law") rfl)
  have e := hfa.symm.trans gLaw
  cases e
  have gBlock := He.glo_ok X G (c.fact 37 (f := .glo "Block") rfl)
  have cBlock := He.cls_ok (c.fact 56 (f := .cls "Block") rfl)
  have mBlock := He.mkr_ok (c.fact 57 (f := .mkr "Block") rfl)
  have kBlock := He.keep_ok (c.fact 58 (f := .keep "Block") rfl)
  have gArea := He.glo_ok X G (c.fact 38 (f := .glo "Area") rfl)
  have cArea := He.cls_ok (c.fact 59 (f := .cls "Area") rfl)
  have mArea := He.mkr_ok (c.fact 60 (f := .mkr "Area") rfl)
  have kArea := He.keep_ok (c.fact 61 (f := .keep "Area") rfl)
  have gSheet := He.glo_ok X G (c.fact 39 (f := .glo "Sheet") rfl)
  have cSheet := He.cls_ok (c.fact 62 (f := .cls "Sheet") rfl)
  have mSheet := He.mkr_ok (c.fact 63 (f := .mkr "Sheet") rfl)
  have kSheet := He.keep_ok (c.fact 64 (f := .keep "Sheet") rfl)
  obtain ⟨i1, hm⟩ := He.ba hm
  obtain ⟨i2, hm⟩ := He.ba hm
  obtain ⟨i3, i4⟩ := He.ba hm
  have B : Bi mg := ⟨He.free_ok X G (c.fact 40 (f := .free "isinstance") rfl), He.free_ok X G (c.fact 41 (f := .free "int") rfl), He.free_ok X G (c.fact 42 (f := .free "bool") rfl), He.free_ok X G (c.fact 43 (f := .free "tuple") rfl), He.free_ok X G (c.fact 44 (f := .free "str") rfl), He.free_ok X G (c.fact 45 (f := .free "list") rfl), He.free_ok X G (c.fact 46 (f := .free "len") rfl), He.free_ok X G (c.fact 47 (f := .free "all") rfl), He.free_ok X G (c.fact 48 (f := .free "any") rfl), He.free_ok X G (c.fact 49 (f := .free "set") rfl), He.free_ok X G (c.fact 50 (f := .free "sorted") rfl), He.free_ok X G (c.fact 51 (f := .free "enumerate") rfl), He.free_ok X G (c.fact 52 (f := .free "sum") rfl), He.free_ok X G (c.fact 53 (f := .free "range") rfl)⟩
  have TB : BK K mg (He.ga K "Block") := ⟨cBlock, He.noat_ok (c.fact 65 (f := .noat "Block" "top") rfl), He.noat_ok (c.fact 66 (f := .noat "Block" "left") rfl), He.noat_ok (c.fact 67 (f := .noat "Block" "bottom") rfl), He.noat_ok (c.fact 68 (f := .noat "Block" "right") rfl), gBlock, kBlock, insB_ok cBlock i1⟩
  have TA : AK K mg (He.ga K "Area") := ⟨cArea, He.noat_ok (c.fact 69 (f := .noat "Area" "form") rfl), gArea, kArea, insB_ok cArea i2⟩
  have TS : SK K mg (He.ga K "Sheet") := ⟨cSheet, He.noat_ok (c.fact 70 (f := .noat "Sheet" "held") rfl), gSheet, kSheet, insB_ok cSheet i3⟩
  obtain ⟨t1, hs1⟩ := He.str_ok X G (c.fact 54 (f := .str "SIGNS" "abcdefghijklmnopqrstuvwxyz0123456789 ") rfl)
  obtain ⟨t2, hs2⟩ := He.int_ok X G (c.fact 55 (f := .int "MOST" 40) rfl)
  have CT : Cst mg := ⟨⟨_, hs1, ⟨t1, rfl⟩⟩, ⟨_, hs2, ⟨t2, rfl⟩⟩⟩
  have meBEq := He.meth_ok (c.fact 71 (f := .meth "Block" "__eq__") rfl)
  have meBHas := He.meth_ok (c.fact 72 (f := .meth "Block" "has") rfl)
  have meBSize := He.meth_ok (c.fact 73 (f := .meth "Block" "size") rfl)
  have meAEq := He.meth_ok (c.fact 74 (f := .meth "Area" "__eq__") rfl)
  have meALen := He.meth_ok (c.fact 75 (f := .meth "Area" "__len__") rfl)
  have meABlocks := He.meth_ok (c.fact 76 (f := .meth "Area" "blocks") rfl)
  have meAHas := He.meth_ok (c.fact 77 (f := .meth "Area" "has") rfl)
  have meASize := He.meth_ok (c.fact 78 (f := .meth "Area" "size") rfl)
  have meABy := He.meth_ok (c.fact 79 (f := .meth "Area" "by") rfl)
  have meAMet := He.meth_ok (c.fact 80 (f := .meth "Area" "met") rfl)
  have meAJoined := He.meth_ok (c.fact 81 (f := .meth "Area" "joined") rfl)
  have meAWithout := He.meth_ok (c.fact 82 (f := .meth "Area" "without") rfl)
  have meSLen := He.meth_ok (c.fact 83 (f := .meth "Sheet" "__len__") rfl)
  have meFill := He.meth_ok (c.fact 84 (f := .meth "Sheet" "fill") rfl)
  have meHold := He.meth_ok (c.fact 85 (f := .meth "Sheet" "hold") rfl)
  have meValue := He.meth_ok (c.fact 86 (f := .meth "Sheet" "value") rfl)
  have meWhere := He.meth_ok (c.fact 87 (f := .meth "Sheet" "where") rfl)
  have meTold := He.meth_ok (c.fact 88 (f := .meth "Sheet" "told") rfl)
  have mePairs := He.meth_ok (c.fact 89 (f := .meth "Sheet" "pairs") rfl)
  have meTwin := He.meth_ok (c.fact 90 (f := .meth "Sheet" "twin") rfl)
  have neB : He.ga K "both" ≠ He.ga K "either" := fn_ne FBoth FEither (by decide +kernel)
  have neA : He.ga K "one_alone" ≠ He.ga K "either" := fn_ne FAlone FEither (by decide +kernel)
  have neA2 : He.ga K "one_alone" ≠ He.ga K "both" := fn_ne FAlone FBoth (by decide +kernel)
  have sE : keepS (He.ga K "either") (He.ga K "both") (He.ga K "one_alone") (He.ga K "either") = some (spKeep kOr) := if_pos rfl
  have sB : keepS (He.ga K "either") (He.ga K "both") (He.ga K "one_alone") (He.ga K "both") = some (spKeep kAnd) := by
    unfold keepS
    rw [if_neg neB, if_pos rfl]
  have sA : keepS (He.ga K "either") (He.ga K "both") (He.ga K "one_alone") (He.ga K "one_alone") = some (spKeep kSub) := by
    unfold keepS
    rw [if_neg neA, if_neg neA2, if_pos rfl]
  refine ⟨fdLaw, fun s v => FLaw.bindsA (ps := ["_law_script"]) (fun _ _ _ _ _ _ us hl => match us, hl with | [_], _ => rfl) s [v] rfl, fun base _ _ => ?_⟩
  have hKeeps : Keeps P w K mg base (keepS (He.ga K "either") (He.ga K "both") (He.ga K "one_alone")) := fun f sp e => by
    unfold keepS at e
    split at e
    · rename_i z
      cases e
      rw [z]
      exact held_either FEither
    · split at e
      · rename_i z
        cases e
        rw [z]
        exact held_both FBoth
      · split at e
        · rename_i z
          cases e
          rw [z]
          exact held_alone FAlone
        · cases e
  have bB5 : Binds K fdBInit ["self", "top", "left", "bottom", "right"] [] := by
    obtain ⟨ds, v, b⟩ := FBInit.binds1 (ps := ["self", "top", "left", "bottom", "right"]) 5 4 (List.cons_ne_nil _ _) rfl fun _ _ _ _ _ _ _ us its hu hi => match us, its, hu, hi with | [_, _, _, _, _], [_, _, _, _], _, _ => ⟨_, rfl, rfl⟩
    cases v
    exact b
  obtain ⟨dsB, vB, bB1⟩ := FBInit.binds1 (ps := ["self", "top", "left", "bottom", "right"]) 1 0 (List.cons_ne_nil _ _) rfl fun _ _ _ _ _ _ _ us its hu hi => match us, its, hu, hi with | [_], [_, _, _, _], _, _ => ⟨_, rfl, rfl⟩
  have bA2 : Binds K fdAInit ["self", "blocks"] [] := by
    obtain ⟨ds, v, b⟩ := FAInit.binds1 (ps := ["self", "blocks"]) 2 1 (List.cons_ne_nil _ _) rfl fun _ _ _ _ _ _ _ us its hu hi => match us, its, hu, hi with | [_, _], [_], _, _ => ⟨_, rfl, rfl⟩
    cases v
    exact b
  obtain ⟨dsA, vA, bA1⟩ := FAInit.binds1 (ps := ["self", "blocks"]) 1 0 (List.cons_ne_nil _ _) rfl fun _ _ _ _ _ _ _ us its hu hi => match us, its, hu, hi with | [_], [_], _, _ => ⟨_, rfl, rfl⟩
  have kWhole := ok_whole (P := P) (w := w) (base := base) FWhole gWhole B
  have kCount := ok_count FCount gCount kWhole
  have kCell := ok_cell FCell gCell B kCount
  have kChkCell := ok_chkcell FChkCell gChkCell kCell
  have kEnd := ok_end FEnd gEnd kCount
  have kAt := ok_at (P := P) (w := w) (base := base) FAt gAt
  have kStr := ok_str (P := P) (w := w) (base := base) FStr gStr B
  have kCuts := ok_cuts (P := P) (w := w) (base := base) FCuts gCuts
  have kWith := ok_with (P := P) (w := w) (base := base) FWith gWith
  have kRuns := ok_runs FRuns gRuns B hKeeps kAt kStr kCuts kWith
  have kCols := ok_cols FCols gCols TB kAt
  have kBands := ok_bands FBands gBands TB kStr kCuts kRuns kCols
  have kFirst := ok_first (P := P) (w := w) (base := base) FFirst gFirst TB
  have kBlk := ok_binit FBInit bB5 .nil mBlock TB kCount kEnd
  have kBlk0 := ok_binit FBInit bB1 vB mBlock TB kCount kEnd
  have kForm := ok_form FForm gForm B TB FFirst gFirst kBlk
  have kBHas := ok_bhas FBHas meBHas TB kChkCell
  have kBSize := ok_bsize (P := P) (w := w) (base := base) FBSize meBSize TB
  have kChkB := ok_chkb (P := P) (w := w) (base := base) FChkB gChkB B TB
  have kChkA := ok_chka (P := P) (w := w) (base := base) FChkA gChkA B TA
  have kAr := ok_ainit FAInit bA2 .nil mArea TA gEither sE kChkB kBands kForm
  have kAr0 := ok_ainit FAInit bA1 vA mArea TA gEither sE kChkB kBands kForm
  have kABlocks := ok_ablocks (P := P) (w := w) (base := base) (C := He.ga K "Block") FABlocks meABlocks B TA
  have kAHas := ok_ahas FAHas meAHas B TA TB kChkCell kBHas
  have kASize := ok_asize FASize meASize B TA kBSize
  have kABy := ok_aby FABy meABy TA kChkA kAr kBands kForm
  have kAMet := ok_amet FAMet meAMet TA gBoth sB kABy
  have kAJoined := ok_ajoined FAJoined meAJoined TA gEither sE kABy
  have kAWithout := ok_awithout FAWithout meAWithout TA gAlone sA kABy
  have kChkV := ok_chkv (P := P) (w := w) (base := base) FChkV gChkV B CT
  have kChkS := ok_chks (P := P) (w := w) (base := base) FChkS gChkS B TS
  have kSheet' := ok_sinit FSInit mSheet TS kBlk0 kAr
  have kHold := ok_hold (P := P) (w := w) (base := base) (C := He.ga K "Block") FHold meHold B TS TA FALen meALen
  have kFill := ok_fill FFill meFill B TS TA kChkA kChkV kAWithout kAJoined kAr0 kHold
  have kValue := ok_value FValue meValue B TS kChkCell kAHas
  have kWhere := ok_where FWhere meWhere TS kChkV kAr0
  have kTold := ok_told (P := P) (w := w) (base := base) (C := He.ga K "Block") (CA := He.ga K "Area") FTold meTold B TS
  have kPairs := ok_pairs FPairs mePairs B TS kABlocks FFPart gFPart kFirst
  have kTwin := ok_twin FTwin meTwin TS kSheet' kHold
  have kUnl := ok_unl FUnl gUnl B TS TA kChkS kTold kWhere kAWithout kAMet kABlocks FALen meALen FFPart gFPart kFirst
  have kUnlA := ok_unlA FUnlA gUnlA kUnl kAr
  have kCellAt := ok_cellat (P := P) (w := w) (base := base) FCellAt gCellAt B
  have kWell := ok_well (P := P) (w := w) (base := base) FWell gWell B
  have kDraw := ok_draw (P := P) (w := w) (base := base) FDraw gDraw
  have kTable := ok_table FTable gTable B kDraw
  have kLArea := ok_larea FLArea gLArea B kBlk kAr
  have kLVals := ok_lvals (P := P) (w := w) (base := base) FLVals gLVals B
  have kLFill := ok_lfill FLFill gLFill kSheet' kLVals kLArea kFill
  have kLRuns := ok_lruns (P := P) (w := w) (base := base) FLRuns gLRuns B
  have kLPairs := ok_lpairs FLPairs gLPairs B kLRuns
  have kLTold := ok_ltold FLTold gLTold TB kPairs
  have kLCells := ok_lcells FLCells gLCells B kValue
  have kLUnl := ok_lunl FLUnl gLUnl B TB kUnl kUnlA kASize kAHas
  have calls : Calls P w K mg base (He.ga K "Block") (He.ga K "Area") (He.ga K "Sheet") := ⟨kCellAt, kWell, kDraw, kTable, kLFill, kLPairs, kLCells, kLTold, kLVals, kLArea, kLUnl, kTold, kWhere, kTwin, kFill, kBlk, kAr⟩
  exact fn_law mathL FLaw B TA calls (fn_slen FSLen B TS kPairs) meSLen (FSLen.bindsN fun _ _ _ _ _ _ us hl => match us, hl with | [_], _ => rfl) (fn_aeq FAEq B TA FBEq TB meBEq) meAEq (FAEq.bindsN fun _ _ _ _ _ _ us hl => match us, hl with | [_, _], _ => rfl) (He.eqO_ok i4)
end
end CB
end
section
set_option maxHeartbeats 0
/-! the head: one kernel run of the top; what is read off its heap -/
namespace CB
open PySem PySem.Spec PyProof.Rows L2
abbrev RwR : PySem.W.OpenRow := PySem.W.OpenLaw.row PySem.Challenge.rw_cellblocks_k69_whole_sheets_of_many_valu
abbrev qv : Program := PySem.W.view RwR.prog [64]
def loose0 : List Str := ["_wall", "CellError", "NoCell", "NoColumn", "NoBlock", "NoArea", "NoValue", "NoSheet", "is_whole", "is_count", "is_cell", "checked_cell", "LETTERS", "letters_of", "is_end", "is_rows", "is_columns", "letters_ahead", "by_ends", "Block", "row_text", "column_text", "is_at", "stretches", "cuts_of", "with_run", "runs_by", "columns_at", "bands_by", "form_of"]
def loose1 : List Str := ["first_cell", "either", "both", "one_alone", "checked_blocks", "checked_area", "Area", "SIGNS", "MOST", "check_value", "check_sheet", "first_of_part", "Sheet", "unlike", "unlike_area", "_law_cell_at", "_law_well", "_law_draw", "_law_table", "_law_area", "_law_runs", "_law_pairs", "_law_told", "_law_filled", "_law_values", "_law_cells_right", "_law_unlike_right"]
def loose : List Str := loose0 ++ loose1
abbrev AlB : Type := He.AlD × Bool
def obsB (g : Addr → Option Obj) (K : PySem.W.Frag) : AlB := (He.obsD facts fns K, more K)
/-- what an address's object names, no more than the facts ask for -/
def outO (g : Addr → Option Obj) (a : Addr) : List Addr := match g a with
  | some o => He.refsO o
  | none => []
def outF (g : Addr → Option Obj) (a : Addr) : List Addr := match g a with
  | some ⟨_, _, .func fd, _⟩ => He.refV fd.code ++ He.refV fd.defaults
  | _ => []
def outC (g : Addr → Option Obj) (a : Addr) : List Addr := match g a with
  | some ⟨_, _, .func fd, _⟩ => He.refV fd.code ++ He.refV fd.defaults
  | some ⟨_, _, .cls cd, _⟩ => cd.ns :: (outO g cd.ns ++ (outO g cd.ns).flatMap (outF g))
  | _ => []
def allA (g : Addr → Option Obj) : List Addr := mainGlobals :: (outO g mainGlobals ++ (outO g mainGlobals).flatMap (outC g))
def hookB : PySem.W.Hook where
  α := AlB
  obs := fun s => obsB s.heap.get? (He.frG s.heap.get? (allA s.heap.get?))
  val := fun _ => (He.valD fns, true)
  says := fun _ h => ∃ K : PySem.W.Frag, K.In h ∧ He.SaysD facts fns K ∧ more K = true
  of := fun _ _ e => ⟨_, He.frG_in, congrArg (fun z : AlB => z.1) e, congrArg (fun z : AlB => z.2) e⟩
  keeps := fun _ _ _ ⟨K, hK, c⟩ k => ⟨K, PySem.W.Frag.In.keeps hK k, c⟩
def ob (s : PySem.W.SharedT) : AlB := obsB (HandSHeadRun.getT s) (He.frG (HandSHeadRun.getT s) (allA (HandSHeadRun.getT s)))
theorem ob_eq (s : PySem.W.SharedT) : ob s = hookB.obs s.abs := by
  have e : HandSHeadRun.getT s = s.abs.heap.get? := funext (HandSHeadRun.getT_eq s)
  unfold ob
  rw [e] <;> rfl
theorem run (w : World) : HandSHeadRun.RunEq RwR qv hookB ob 12000 loose w := by
  intro os
  kernel_rfl
end CB
end
section
set_option maxHeartbeats 0
open PySem PySem.W PySem.Calls PyProof.Rows
theorem PySem.Challenge.cw_cellblocks_k69_whole_sheets_of_many_valu_holds : PySem.Challenge.rw_cellblocks_k69_whole_sheets_of_many_valu.Holds := by
  w_on; o_law
  refine HandSHeadRun.head_any (r := OpenLaw.row PySem.Challenge.rw_cellblocks_k69_whole_sheets_of_many_valu) (q := CB.qv) (H := CB.hookB) (ob := CB.ob) (M := 12000) (loose := CB.loose) (d := HandSHeadRun.topDef (OpenLaw.row PySem.Challenge.rw_cellblocks_k69_whole_sheets_of_many_valu).prog 64) (kwd := []) CB.ob_eq
    (by kernel_rfl) (fun s => by kernel_rfl) CB.run (by kernel_rfl) (by kernel_rfl) (by kernel_rfl) (by rfl) (by first | assumption | decide +kernel) (by decide +kernel) ⟨rfl, rfl, rfl, rfl, rfl, by decide +kernel⟩ ?hw ?hc
  case hw => w_witness2
  case hc =>
    refine L2.walk_ofE (l := PySem.Challenge.rw_cellblocks_k69_whole_sheets_of_many_valu) (n := 63) (k := 14) (x := "_law_script") (CX := C8.CX0) rfl (by decide) (by kernel_rfl) ⟨rfl, by decide, by decide⟩ ?F (fun _ _ _ _ z => z)
    intro w mg fa h Y G hmg0
    obtain ⟨K, KX, c, hm⟩ := Y
    have hmg : mg ("law" : PySem.Str) = some (.ref fa) := by
      have e : (HandSHeadRun.topDef (OpenLaw.row PySem.Challenge.rw_cellblocks_k69_whole_sheets_of_many_valu).prog 64).name = ("law" : PySem.Str) := by kernel_rfl
      rw [← e]
      exact hmg0
    obtain ⟨fd, hb, hF⟩ := CB.law_facts (P := (PySem.Challenge.rw_cellblocks_k69_whole_sheets_of_many_valu).prog) (w := w) KX G hmg c hm
    exact ⟨K, fd, CB.spLaw K, KX, hb, fun H a ns hl _ hS => ⟨a, ns, rfl, hS, hl, fun _ => rfl⟩, hF⟩
end
