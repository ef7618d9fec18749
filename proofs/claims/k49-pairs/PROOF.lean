import PyProof.Rows.All
import Wide.All
import OpenK.AllK
import Wide.FinOn
import HandS.ForMost
import HandS.ForSpec
import HandS.TupAny
import HandS.Wide
import HandS.Conv
import HandS.DictComp
import HandS.IsInst
import HandS.Zip
import HandS.Defaults
import HandS.TupLen
import HandS.Deep
import KE.SortData
import KE.OsSort
import HandS.Style
import HandS.TryOnly
import HandS.Iter
import KE.GoesEnum
import KE.KTupSum
import PyProof.Rows.ReprOcc
import KE.KDictCopyH
import HandS.SetFor
import PyProof.Rows.SeqMore2
import KE.KRevSl
import HandS.Text
import HandS.Replace
import PyProof.P3In
import HandS.TupSets
import PySem.Challenge.RW_dotcrowds_k49_whole_pairs_that_never_cro
set_option Elab.async false
set_option linter.all false
set_option maxRecDepth 100000
set_option maxHeartbeats 4000000
/-! ## data, and how it lies on the heap -/
namespace Dl
open PySem PySem.Spec PyProof.Rows
open L2
/-- what a value is, without the heap -/
inductive D where
  | non | bl (b : Bool) | int (i : Int) | str (s : Str)
  | tup (l : List D) | lst (l : List D)
  | dk (ks : List Key) (vs : List D) | dt (ks : List (List Key)) (vs : List D)
  | scr (l : List Int)
mutual
def RepD (K : PySem.W.Frag) (F : Hp) : D → V → Prop
  | .non, v => v = .non
  | .bl b, v => v = .bl b
  | .int i, v => v = .int i
  | .str s, v => v = .str s
  | .tup l, v => ∃ a xs, v = .ref a ∧ F a = some (.tup xs) ∧ RepL K F l xs
  | .lst l, v => ∃ a xs, v = .ref a ∧ F a = some (.lst xs) ∧ RepL K F l xs
  | .dk ks vs, v => ∃ a kvs, v = .ref a ∧ F a = some (.dK kvs) ∧ kvs.map (·.1) = ks ∧ RepL K F vs (kvs.map (·.2))
  | .dt ks vs, v => ∃ a kvs, v = .ref a ∧ F a = some (.dT kvs) ∧ kvs.map (·.1) = ks ∧ RepL K F vs (kvs.map (·.2))
  | .scr l, v => ∃ a, v = .ref a ∧ SqL K F a (l.map V.int)
def RepL (K : PySem.W.Frag) (F : Hp) : List D → List V → Prop
  | [], xs => xs = []
  | d :: l, xs => ∃ x r, xs = x :: r ∧ RepD K F d x ∧ RepL K F l r
end
section
variable {K : PySem.W.Frag} {F F' : Hp}
mutual
theorem RepD.mono (h : Same F F') : ∀ (d : D) (v : V), RepD K F d v → RepD K F' d v
  | .non, v, q => q
  | .bl b, v, q => q
  | .int i, v, q => q
  | .str s, v, q => q
  | .tup l, v, q => by
    obtain ⟨a, xs, e, f, r⟩ := q
    exact ⟨a, xs, e, h _ _ f, RepL.mono h l xs r⟩
  | .lst l, v, q => by
    obtain ⟨a, xs, e, f, r⟩ := q
    exact ⟨a, xs, e, h _ _ f, RepL.mono h l xs r⟩
  | .dk ks vs, v, q => by
    obtain ⟨a, xs, e, f, g, r⟩ := q
    exact ⟨a, xs, e, h _ _ f, g, RepL.mono h vs _ r⟩
  | .dt ks vs, v, q => by
    obtain ⟨a, xs, e, f, g, r⟩ := q
    exact ⟨a, xs, e, h _ _ f, g, RepL.mono h vs _ r⟩
  | .scr l, v, q => by
    obtain ⟨a, e, f⟩ := q
    exact ⟨a, e, h.seq f⟩
theorem RepL.mono (h : Same F F') : ∀ (l : List D) (xs : List V), RepL K F l xs → RepL K F' l xs
  | [], xs, q => q
  | d :: l, xs, q => by
    obtain ⟨x, r, e, a, b⟩ := q
    exact ⟨x, r, e, RepD.mono h d x a, RepL.mono h l r b⟩
end
theorem RepL.length : ∀ {l : List D} {xs : List V}, RepL K F l xs → xs.length = l.length
  | [], xs, q => by cases (show xs = [] from q); rfl
  | d :: l, xs, q => by
    obtain ⟨x, r, rfl, _, b⟩ := q
    show r.length + 1 = l.length + 1
    rw [RepL.length b]
theorem RepL.append : ∀ {l l' : List D} {xs xs' : List V}, RepL K F l xs → RepL K F l' xs' → RepL K F (l ++ l') (xs ++ xs')
  | [], _, xs, _, q, q' => by cases (show xs = [] from q); exact q'
  | d :: l, _, xs, _, q, q' => by
    obtain ⟨x, r, rfl, a, b⟩ := q
    exact ⟨x, r ++ _, rfl, a, RepL.append b q'⟩
theorem RepL.get : ∀ {l : List D} {xs : List V} {i : Nat} {d : D}, RepL K F l xs → l[i]? = some d → ∃ x, xs[i]? = some x ∧ RepD K F d x
  | [], _, _, _, _, e => by simp at e
  | d :: l, xs, 0, _, q, e => by
    obtain ⟨x, r, rfl, a, b⟩ := q
    simp at e
    subst e
    exact ⟨x, rfl, a⟩
  | d :: l, xs, i + 1, d', q, e => by
    obtain ⟨x, r, rfl, a, b⟩ := q
    obtain ⟨y, hy, z⟩ := RepL.get (i := i) (d := d') b (by simpa using e)
    exact ⟨y, by simpa using hy, z⟩
theorem RepL.get' : ∀ {l : List D} {xs : List V} {i : Nat} {x : V}, RepL K F l xs → xs[i]? = some x → ∃ d, l[i]? = some d ∧ RepD K F d x
  | [], xs, _, _, q, e => by
    cases (show xs = [] from q)
    simp at e
  | d :: l, xs, 0, _, q, e => by
    obtain ⟨x, r, rfl, a, b⟩ := q
    simp at e
    subst e
    exact ⟨d, rfl, a⟩
  | d :: l, xs, i + 1, x', q, e => by
    obtain ⟨x, r, rfl, a, b⟩ := q
    obtain ⟨y, hy, z⟩ := RepL.get' (i := i) (x := x') b (by simpa using e)
    exact ⟨y, by simpa using hy, z⟩
theorem RepL.take : ∀ {l : List D} {xs : List V} (n : Nat), RepL K F l xs → RepL K F (l.take n) (xs.take n)
  | _, _, 0, _ => by rw [List.take_zero, List.take_zero]; exact rfl
  | [], xs, n + 1, q => by cases (show xs = [] from q); exact rfl
  | d :: l, xs, n + 1, q => by
    obtain ⟨x, r, rfl, a, b⟩ := q
    exact ⟨x, r.take n, rfl, a, RepL.take n b⟩
theorem RepL.drop : ∀ {l : List D} {xs : List V} (n : Nat), RepL K F l xs → RepL K F (l.drop n) (xs.drop n)
  | _, _, 0, q => q
  | [], xs, n + 1, q => by cases (show xs = [] from q); exact rfl
  | d :: l, xs, n + 1, q => by
    obtain ⟨x, r, rfl, a, b⟩ := q
    exact RepL.drop n b
theorem RepL.set : ∀ {l : List D} {xs : List V} (i : Nat) {d : D} {x : V}, RepL K F l xs → RepD K F d x → RepL K F (l.set i d) (xs.set i x)
  | [], xs, i, _, _, q, _ => by cases (show xs = [] from q); exact rfl
  | d :: l, xs, 0, _, _, q, z => by
    obtain ⟨x, r, rfl, a, b⟩ := q
    exact ⟨_, r, rfl, z, b⟩
  | d :: l, xs, i + 1, _, _, q, z => by
    obtain ⟨x, r, rfl, a, b⟩ := q
    exact ⟨x, r.set i _, rfl, a, RepL.set i b z⟩
theorem RepL.erase : ∀ {l : List D} {xs : List V} (i : Nat), RepL K F l xs → RepL K F (l.eraseIdx i) (xs.eraseIdx i)
  | [], xs, i, q => by cases (show xs = [] from q); exact rfl
  | d :: l, xs, 0, q => by
    obtain ⟨x, r, rfl, a, b⟩ := q
    exact b
  | d :: l, xs, i + 1, q => by
    obtain ⟨x, r, rfl, a, b⟩ := q
    exact ⟨x, r.eraseIdx i, rfl, a, RepL.erase i b⟩
theorem RepL.reverse {l : List D} {xs : List V} (q : RepL K F l xs) : RepL K F l.reverse xs.reverse := by
  induction l generalizing xs with
  | nil => cases (show xs = [] from q); exact rfl
  | cons d l ih =>
    obtain ⟨x, r, rfl, a, b⟩ := q
    rw [List.reverse_cons, List.reverse_cons]
    exact RepL.append (ih b) ⟨x, [], rfl, a, rfl⟩
theorem RepL.one {d : D} {x : V} (h : RepD K F d x) : RepL K F [d] [x] := ⟨x, [], rfl, h, rfl⟩
theorem repD_int {F : Hp} {i : Int} : RepD K F (.int i) (.int i) := rfl
theorem repL_ints {F : Hp} : ∀ l : List Int, RepL K F (l.map D.int) (l.map V.int)
  | [] => rfl
  | i :: l => ⟨_, _, rfl, rfl, repL_ints l⟩
theorem repL_ints' {F : Hp} : ∀ {l : List Int} {xs : List V}, RepL K F (l.map D.int) xs → xs = l.map V.int
  | [], xs, q => q
  | i :: l, xs, q => by
    obtain ⟨x, r, rfl, a, b⟩ := q
    rw [repL_ints' b, (show x = V.int i from a)]
    rfl
theorem repL_bls' {F : Hp} : ∀ {l : List Bool} {xs : List V}, RepL K F (l.map D.bl) xs → xs = l.map V.bl
  | [], xs, q => q
  | i :: l, xs, q => by
    obtain ⟨x, r, rfl, a, b⟩ := q
    rw [repL_bls' b, (show x = V.bl i from a)]
    rfl
end
/-! ## results and slots -/
/-- what an expression gives, what a slot holds: data; a list or dict that this def alone holds, or (true) that a caller lent; a dict may be locked as the object it is; the object that a slot holds -/
inductive R where
  | dat (d : D) | lst (p : Bool) (a : Addr) (l : List D) | dk (p : Bool) (z : Option Obj) (a : Addr) (kvs : List (Key × D)) | dt (p : Bool) (z : Option Obj) (a : Addr) (kvs : List (List Key × D)) | adr (i : Nat) (a : Addr)
def R.ad : R → List Addr
  | .lst _ a _ => [a]
  | .dk _ _ a _ => [a]
  | .dt _ _ a _ => [a]
  | _ => []
structure Cn where
  K : PySem.W.Frag
  H0 : Hp
  F0 : Hp
  P : List Addr
def lkd : Option Obj → HO → HO
  | none, o => o
  | some od, o => .frz od o
/-- whose it is -/
def Who (c : Cn) (p : Bool) (a : Addr) : Prop := match p with
  | false => c.H0 a = none
  | true => a ∈ c.P
def RepR (c : Cn) (F H : Hp) : R → V → Prop
  | .dat d, v => RepD c.K F d v
  | .lst p a l, v => v = .ref a ∧ F a = none ∧ Who c p a ∧ ∃ xs, H a = some (.lst xs) ∧ RepL c.K F l xs
  | .dk p z a kvs, v => v = .ref a ∧ F a = none ∧ Who c p a ∧ ∃ ws, H a = some (lkd z (.dK ws)) ∧ ws.map (·.1) = kvs.map (·.1) ∧ RepL c.K F (kvs.map (·.2)) (ws.map (·.2))
  | .dt p z a kvs, v => v = .ref a ∧ F a = none ∧ Who c p a ∧ ∃ ws, H a = some (lkd z (.dT ws)) ∧ ws.map (·.1) = kvs.map (·.1) ∧ RepL c.K F (kvs.map (·.2)) (ws.map (·.2))
  | .adr _ a, v => v = .ref a
abbrev Ls := List (R × V)
def owns (L : Ls) : List Addr := L.flatMap fun e => e.1.ad
structure Good (c : Cn) (F H : Hp) (L : Ls) : Prop where
  sub : Same F H
  new : ∀ b, F b ≠ none → c.F0 b ≠ none ∨ c.H0 b = none ∨ ∃ xs, F b = some (.tup xs)
  old : Same c.F0 F
  keep : ∀ b o, c.H0 b = some o → b ∉ c.P → H b = some o
  pin : ∀ b ∈ c.P, H b ≠ none
  rep : ∀ e ∈ L, RepR c F H e.1 e.2
  nd : (owns L).Nodup
section
variable {c : Cn} {F F' H H' : Hp} {L L' : Ls} {a p : Addr} {l : List D} {xs : List V} {v : V} {r : R}
theorem RepR.own_at (h : RepR c F H r v) (ha : a ∈ r.ad) : F a = none ∧ ∃ o, H a = some o ∧ ∀ xs, o ≠ .tup xs := by
  cases r with
  | dat d => exact absurd (show a ∈ ([] : List Addr) from ha) (by simp)
  | adr i b => exact absurd (show a ∈ ([] : List Addr) from ha) (by simp)
  | lst p b l =>
    have e : a = b := by simpa [R.ad] using ha
    subst e
    obtain ⟨_, f, _, xs, hx, _⟩ := h
    exact ⟨f, _, hx, fun ys z => nomatch z⟩
  | dk p z b l =>
    have e : a = b := by simpa [R.ad] using ha
    subst e
    obtain ⟨_, f, _, xs, hx, _⟩ := h
    refine ⟨f, _, hx, fun ys q => ?_⟩
    cases z <;> cases q
  | dt p z b l =>
    have e : a = b := by simpa [R.ad] using ha
    subst e
    obtain ⟨_, f, _, xs, hx, _⟩ := h
    refine ⟨f, _, hx, fun ys q => ?_⟩
    cases z <;> cases q
/-- what a result leans on: the frozen heap grows, its own object stands -/
theorem RepR.stay (h : RepR c F H r v) (hF : Same F F') (ho : ∀ a ∈ r.ad, F' a = none ∧ H' a = H a) : RepR c F' H' r v := by
  cases r with
  | dat d => exact RepD.mono hF _ _ h
  | adr i b => exact h
  | lst p b l =>
    obtain ⟨e, f, g, xs, hx, q⟩ := h
    have z := ho b (by simp [R.ad])
    exact ⟨e, z.1, g, xs, z.2.trans hx, RepL.mono hF _ _ q⟩
  | dk p z b l =>
    obtain ⟨e, f, g, xs, hx, q1, q⟩ := h
    have z := ho b (by simp [R.ad])
    exact ⟨e, z.1, g, xs, z.2.trans hx, q1, RepL.mono hF _ _ q⟩
  | dt p z b l =>
    obtain ⟨e, f, g, xs, hx, q1, q⟩ := h
    have z := ho b (by simp [R.ad])
    exact ⟨e, z.1, g, xs, z.2.trans hx, q1, RepL.mono hF _ _ q⟩
theorem mem_owns {e : R × V} (he : e ∈ L) (ha : a ∈ e.1.ad) : a ∈ owns L := List.mem_flatMap.mpr ⟨e, he, ha⟩
theorem Good.own_at (G : Good c F H L) (ha : a ∈ owns L) : F a = none ∧ ∃ o, H a = some o ∧ ∀ xs, o ≠ .tup xs := by
  obtain ⟨e, he, h⟩ := List.mem_flatMap.mp ha
  exact (G.rep e he).own_at h
theorem owns_sub : ∀ {L L' : Ls}, L'.Sublist L → (owns L').Sublist (owns L)
  | _, _, .slnil => List.Sublist.refl _
  | _, _, .cons a h => (owns_sub h).trans (List.sublist_append_right _ _)
  | _, _, .cons₂ a h => (List.Sublist.refl _).append (owns_sub h)
theorem Good.perm (G : Good c F H L) (h : L.Perm L') : Good c F H L' :=
  ⟨G.sub, G.new, G.old, G.keep, G.pin, fun e he => G.rep e (h.mem_iff.mpr he), (h.flatMap_right _).nodup_iff.mp G.nd⟩
theorem Good.less (G : Good c F H L) (h : L'.Sublist L) : Good c F H L' := by
  refine ⟨G.sub, G.new, G.old, G.keep, G.pin, fun e he => G.rep e (h.subset he), ?_⟩
  exact List.Nodup.sublist (owns_sub h) G.nd
theorem Good.tail {e : R × V} (G : Good c F H (e :: L)) : Good c F H L := G.less (List.sublist_cons_self _ _)
theorem Good.also (G : Good c F H L) (h : RepR c F H r v) (hr : r.ad = []) : Good c F H ((r, v) :: L) := by
  refine ⟨G.sub, G.new, G.old, G.keep, G.pin, fun e he => ?_, ?_⟩
  · rcases List.mem_cons.mp he with rfl | he
    · exact h
    · exact G.rep e he
  · show ((r.ad) ++ owns L).Nodup
    rw [hr]
    exact G.nd
theorem Good.H0_none (G : Good c F H L) (h : H p = none) : c.H0 p = none := by
  cases q : c.H0 p with
  | none => rfl
  | some o =>
    by_cases hp : p ∈ c.P
    · exact absurd h (G.pin p hp)
    · rw [G.keep p o q hp] at h
      cases h
/-- a new object, frozen at once -/
theorem Good.lay {o : HO} (G : Good c F H L) (hp : H p = none) : Good c (upd F p o) (upd H p o) L := by
  have hF : F p = none := by
    cases q : F p with
    | none => rfl
    | some o' => rw [G.sub _ _ q] at hp; cases hp
  have sF : Same F (upd F p o) := same_upd' hF
  refine ⟨fun b o' e => ?_, fun b hb => ?_, fun b o' e => sF _ _ (G.old _ _ e), fun b o' e hb => ?_, fun b hb => ?_, fun e he => ?_, G.nd⟩
  · by_cases hbp : b = p
    · subst hbp
      rw [upd_same] at e ⊢
      exact e
    · rw [upd_ne hbp] at e ⊢
      exact G.sub _ _ e
  · by_cases hbp : b = p
    · subst hbp
      exact .inr (.inl (G.H0_none hp))
    · rw [upd_ne hbp] at hb ⊢
      exact G.new b hb
  · have : b ≠ p := fun z => by
      subst z
      rw [G.keep _ _ e hb] at hp
      cases hp
    rw [upd_ne this]
    exact G.keep _ _ e hb
  · have : b ≠ p := fun z => by
      subst z
      exact G.pin _ hb hp
    rw [upd_ne this]
    exact G.pin _ hb
  · refine (G.rep e he).stay sF fun b hb => ?_
    obtain ⟨f, o', h', _⟩ := G.own_at (mem_owns he hb)
    have : b ≠ p := fun z => by
      subst z
      rw [h'] at hp
      cases hp
    rw [upd_ne this, upd_ne this]
    exact ⟨f, rfl⟩
where
  same_upd' {F : Hp} {p : Addr} {o : HO} (h : F p = none) : Same F (upd F p o) := fun b x e => by
    rw [upd_ne (ne_of_none e h)]
    exact e
/-- a new object, not frozen -/
theorem Good.grow {o : HO} (G : Good c F H L) (hp : H p = none) : Good c F (upd H p o) L ∧ F p = none ∧ c.H0 p = none ∧ p ∉ owns L := by
  have hF : F p = none := by
    cases q : F p with
    | none => rfl
    | some o' => rw [G.sub _ _ q] at hp; cases hp
  have no : p ∉ owns L := fun z => by
    obtain ⟨_, o', h', _⟩ := G.own_at z
    rw [h'] at hp
    cases hp
  refine ⟨⟨fun b o' e => ?_, G.new, G.old, fun b o' e hb => ?_, fun b hb => ?_, fun e he => ?_, G.nd⟩, hF, G.H0_none hp, no⟩
  · have : b ≠ p := fun z => by
      subst z
      rw [hF] at e
      cases e
    rw [upd_ne this]
    exact G.sub _ _ e
  · have : b ≠ p := fun z => by
      subst z
      rw [G.keep _ _ e hb] at hp
      cases hp
    rw [upd_ne this]
    exact G.keep _ _ e hb
  · have : b ≠ p := fun z => by
      subst z
      exact G.pin _ hb hp
    rw [upd_ne this]
    exact G.pin _ hb
  · refine (G.rep e he).stay (Same.refl _) fun b hb => ?_
    obtain ⟨f, o', h', _⟩ := G.own_at (mem_owns he hb)
    have : b ≠ p := fun z => by
      subst z
      exact no (mem_owns he hb)
    rw [upd_ne this]
    exact ⟨f, rfl⟩
theorem Good.newTup (G : Good c F H L) (hp : H p = none) (q : RepL c.K F l xs) : Good c (upd F p (.tup xs)) (upd H p (.tup xs)) ((.dat (.tup l), .ref p) :: L) := by
  refine (G.lay hp).also ⟨p, xs, rfl, upd_same, RepL.mono (fun b o e => ?_) _ _ q⟩ rfl
  have : b ≠ p := fun z => by
    subst z
    rw [G.sub _ _ e] at hp
    cases hp
  rw [upd_ne this]
  exact e
theorem Good.newOwn (G : Good c F H L) (hp : H p = none) (q : RepL c.K F l xs) : Good c F (upd H p (.lst xs)) ((.lst false p l, .ref p) :: L) := by
  obtain ⟨G', f, h0, no⟩ := G.grow (o := .lst xs) hp
  refine ⟨G'.sub, G'.new, G'.old, G'.keep, G'.pin, fun e he => ?_, List.nodup_cons.mpr ⟨no, G'.nd⟩⟩
  rcases List.mem_cons.mp he with rfl | he
  · exact ⟨rfl, f, h0, xs, upd_same, q⟩
  · exact G'.rep e he
theorem Good.newDk {kvs : List (Key × D)} {ws : List (Key × V)} (G : Good c F H L) (hp : H p = none) (hk : ws.map (·.1) = kvs.map (·.1)) (q : RepL c.K F (kvs.map (·.2)) (ws.map (·.2))) : Good c F (upd H p (.dK ws)) ((.dk false none p kvs, .ref p) :: L) := by
  obtain ⟨G', f, h0, no⟩ := G.grow (o := .dK ws) hp
  refine ⟨G'.sub, G'.new, G'.old, G'.keep, G'.pin, fun e he => ?_, List.nodup_cons.mpr ⟨no, G'.nd⟩⟩
  rcases List.mem_cons.mp he with rfl | he
  · exact ⟨rfl, f, h0, ws, upd_same, hk, q⟩
  · exact G'.rep e he
theorem Good.newDt {kvs : List (List Key × D)} {ws : List (List Key × V)} (G : Good c F H L) (hp : H p = none) (hk : ws.map (·.1) = kvs.map (·.1)) (q : RepL c.K F (kvs.map (·.2)) (ws.map (·.2))) : Good c F (upd H p (.dT ws)) ((.dt false none p kvs, .ref p) :: L) := by
  obtain ⟨G', f, h0, no⟩ := G.grow (o := .dT ws) hp
  refine ⟨G'.sub, G'.new, G'.old, G'.keep, G'.pin, fun e he => ?_, List.nodup_cons.mpr ⟨no, G'.nd⟩⟩
  rcases List.mem_cons.mp he with rfl | he
  · exact ⟨rfl, f, h0, ws, upd_same, hk, q⟩
  · exact G'.rep e he
/-- a tuple that stands is known as frozen -/
theorem Good.know {xs : List V} (G : Good c F H L) (hp : H p = some (.tup xs)) : ∃ F', F' p = some (.tup xs) ∧ Same F F' ∧ Good c F' H L := by
  by_cases hF : F p = none
  · have sF : Same F (upd F p (.tup xs)) := fun b x e => by
      rw [upd_ne (ne_of_none e hF)]
      exact e
    refine ⟨_, upd_same, sF, fun b o e => ?_, fun b hb => ?_, fun b o e => sF _ _ (G.old _ _ e), G.keep, G.pin, fun e he => ?_, G.nd⟩
    · by_cases hbp : b = p
      · subst hbp
        rw [upd_same] at e
        rw [hp, ← e]
      · rw [upd_ne hbp] at e
        exact G.sub _ _ e
    · by_cases hbp : b = p
      · subst hbp
        exact .inr (.inr ⟨xs, upd_same⟩)
      · rw [upd_ne hbp] at hb ⊢
        exact G.new _ hb
    · refine (G.rep e he).stay sF fun b hb => ?_
      obtain ⟨f, o, h1, h2⟩ := G.own_at (mem_owns he hb)
      have : b ≠ p := fun z => by
        subst z
        rw [hp] at h1
        exact h2 xs (Option.some.inj h1).symm
      rw [upd_ne this]
      exact ⟨f, rfl⟩
  · obtain ⟨o, ho⟩ : ∃ o, F p = some o := by
      cases q : F p with
      | none => exact absurd q hF
      | some o => exact ⟨o, rfl⟩
    have e : o = .tup xs := by
      have z := G.sub _ _ ho
      rw [hp] at z
      exact (Option.some.inj z).symm
    exact ⟨F, by rw [ho, e], Same.refl _, G⟩
/-- freezing what stands at a -/
theorem Good.ice {o : HO} {d : D} (G : Good c F H ((r, v) :: L)) (ha : r.ad = [a]) (hH : H a = some o) (h0 : c.H0 a = none) (hr : RepD c.K (upd F a o) d v) : Good c (upd F a o) H ((.dat d, v) :: L) := by
  have nd : a ∉ owns L := by
    have z : (r.ad ++ owns L).Nodup := G.nd
    rw [ha] at z
    exact (List.nodup_cons.mp z).1
  have hF : F a = none := (G.own_at (mem_owns (e := (r, v)) List.mem_cons_self (by rw [ha]; simp))).1
  have sF : Same F (upd F a o) := fun b x e => by
    rw [upd_ne (ne_of_none e hF)]
    exact e
  refine ⟨fun b o' e => ?_, fun b hb => ?_, fun b o' e => sF _ _ (G.old _ _ e), G.keep, G.pin, fun e he => ?_, ?_⟩
  · by_cases hba : b = a
    · subst hba
      rw [upd_same] at e
      rw [hH, ← e]
    · rw [upd_ne hba] at e
      exact G.sub _ _ e
  · by_cases hba : b = a
    · subst hba
      exact .inr (.inl h0)
    · rw [upd_ne hba] at hb ⊢
      exact G.new _ hb
  · rcases List.mem_cons.mp he with rfl | he
    · exact hr
    · refine (G.rep e (List.mem_cons_of_mem _ he)).stay sF fun b hb => ?_
      have hbL := mem_owns he hb
      have : b ≠ a := fun z => by
        subst z
        exact nd hbL
      rw [upd_ne this]
      exact ⟨(G.tail.own_at hbL).1, rfl⟩
  · exact G.tail.nd
/-- what stands at a is changed -/
theorem Good.turn {o : HO} {r' : R} {v' : V} (G : Good c F H ((r, v) :: L)) (ha : r.ad = [a]) (ha' : r'.ad = [a]) {p : Bool} (hn : Who c p a) (hr : RepR c F (upd H a o) r' v') : Good c F (upd H a o) ((r', v') :: L) := by
  have nd : a ∉ owns L := by
    have z : (r.ad ++ owns L).Nodup := G.nd
    rw [ha] at z
    exact (List.nodup_cons.mp z).1
  have hm : a ∈ owns ((r, v) :: L) := mem_owns (e := (r, v)) List.mem_cons_self (by rw [ha]; simp)
  have hF : F a = none := (G.own_at hm).1
  refine ⟨fun b o' e => ?_, G.new, G.old, fun b o' e hb => ?_, fun b hb => ?_, fun e he => ?_, ?_⟩
  · have : b ≠ a := fun z => by
      subst z
      rw [hF] at e
      cases e
    rw [upd_ne this]
    exact G.sub _ _ e
  · have : b ≠ a := fun z => by
      subst z
      cases p with
      | false => rw [show c.H0 b = none from hn] at e; cases e
      | true => exact hb hn
    rw [upd_ne this]
    exact G.keep _ _ e hb
  · by_cases hba : b = a
    · subst hba
      rw [upd_same]
      simp
    · rw [upd_ne hba]
      exact G.pin _ hb
  · rcases List.mem_cons.mp he with rfl | he
    · exact hr
    · refine (G.rep e (List.mem_cons_of_mem _ he)).stay (Same.refl _) fun b hb => ?_
      have hbL := mem_owns he hb
      have : b ≠ a := fun z => by
        subst z
        exact nd hbL
      rw [upd_ne this]
      exact ⟨(G.tail.own_at hbL).1, rfl⟩
  · show (r'.ad ++ owns L).Nodup
    rw [ha']
    exact List.nodup_cons.mpr ⟨nd, G.tail.nd⟩
end
/-! ## slots -/
abbrev Gm := List (Option R)
inductive Ents : Gm → L2.St → Ls → Prop where
  | nil : Ents [] [] []
  | one {Γ : Gm} {σ : L2.St} {E : Ls} {r : R} {v : V} : Ents Γ σ E → Ents (some r :: Γ) (some v :: σ) ((r, v) :: E)
  | skip {Γ : Gm} {σ : L2.St} {E : Ls} {y : Option V} : Ents Γ σ E → Ents (none :: Γ) (y :: σ) E
theorem Ents.length : ∀ {Γ : Gm} {σ : L2.St} {E : Ls}, Ents Γ σ E → Γ.length = σ.length
  | _, _, _, .nil => rfl
  | _, _, _, .one h => by simp [h.length]
  | _, _, _, .skip h => by simp [h.length]
/-- a slot's entry, taken out and put in -/
theorem Ents.at : ∀ {Γ : Gm} {σ : L2.St} {E : Ls} {i : Nat} {r : R}, Ents Γ σ E → Γ[i]? = some (some r) →
    ∃ v E1 E2, σ[i]? = some (some v) ∧ E = E1 ++ (r, v) :: E2 ∧ (∀ r', Ents (Γ.set i (some r')) σ (E1 ++ (r', v) :: E2)) ∧ (∀ r' v', Ents (Γ.set i (some r')) (σ.set i (some v')) (E1 ++ (r', v') :: E2))
  | _, _, _, _, _, .nil, e => by simp at e
  | _, _, _, 0, _, .one (v := v) (E := E) h, e => by
    simp at e
    subst e
    exact ⟨v, [], E, rfl, rfl, fun r' => .one h, fun r' v' => .one h⟩
  | _, _, _, 0, _, .skip h, e => by simp at e
  | _, _, _, i + 1, r, .one (v := v) (r := r0) h, e => by
    obtain ⟨v', E1, E2, h1, h2, h3, h4⟩ := Ents.at (i := i) (r := r) h (by simpa using e)
    refine ⟨v', (r0, v) :: E1, E2, by simpa using h1, by rw [h2]; rfl, fun r' => .one (h3 r'), fun r' w => .one (h4 r' w)⟩
  | _, _, _, i + 1, r, .skip h, e => by
    obtain ⟨v', E1, E2, h1, h2, h3, h4⟩ := Ents.at (i := i) (r := r) h (by simpa using e)
    exact ⟨v', E1, E2, by simpa using h1, h2, fun r' => .skip (h3 r'), fun r' w => .skip (h4 r' w)⟩
/-- any slot is stored -/
theorem Ents.put : ∀ {Γ : Gm} {σ : L2.St} {E : Ls} {i : Nat}, Ents Γ σ E → i < Γ.length → ∃ E1 o E2, E = E1 ++ o ++ E2 ∧ ∀ r v, Ents (Γ.set i (some r)) (σ.set i (some v)) (E1 ++ (r, v) :: E2)
  | _, _, _, _, .nil, e => by simp at e
  | _, _, _, 0, .one (v := v) (r := r) (E := E) h, e => ⟨[], [(r, v)], E, rfl, fun r' v' => .one h⟩
  | _, _, _, 0, .skip (E := E) h, e => ⟨[], [], E, rfl, fun r' v' => .one h⟩
  | _, _, _, i + 1, .one (v := v) (r := r) h, e => by
    obtain ⟨E1, o, E2, h1, h2⟩ := Ents.put (i := i) h (by simpa using e)
    exact ⟨(r, v) :: E1, o, E2, by rw [h1]; rfl, fun r' v' => .one (h2 r' v')⟩
  | _, _, _, i + 1, .skip h, e => by
    obtain ⟨E1, o, E2, h1, h2⟩ := Ents.put (i := i) h (by simpa using e)
    exact ⟨E1, o, E2, h1, fun r' v' => .skip (h2 r' v')⟩
/-- slots forgotten -/
theorem Ents.drop : ∀ {Γ : Gm} {σ : L2.St} {E : Ls} {i : Nat}, Ents Γ σ E → ∃ E', E'.Sublist E ∧ ∀ y, Ents (Γ.set i none) (σ.set i y) E'
  | _, _, _, _, .nil => ⟨[], List.Sublist.refl _, fun y => .nil⟩
  | _, _, _, 0, .one (v := v) (r := r) (E := E) h => ⟨E, List.sublist_cons_self _ _, fun y => .skip h⟩
  | _, _, _, 0, .skip (E := E) h => ⟨E, List.Sublist.refl _, fun y => .skip h⟩
  | _, _, _, i + 1, .one (v := v) (r := r) h => by
    obtain ⟨E', h1, h2⟩ := Ents.drop (i := i) h
    exact ⟨(r, v) :: E', h1.cons₂ _, fun y => .one (h2 y)⟩
  | _, _, _, i + 1, .skip h => by
    obtain ⟨E', h1, h2⟩ := Ents.drop (i := i) h
    exact ⟨E', h1, fun y => .skip (h2 y)⟩
def Rel (c : Cn) (σ : L2.St) (H : Hp) (Γ : Gm) (T : Ls) : Prop := ∃ F E, Ents Γ σ E ∧ Good c F H (E ++ T)
end Dl
/-! ## readings over data -/
namespace Dl
open PySem PySem.Spec PyProof.Rows
open L2
abbrev W := Gm → (R → Gm → Prop) → Prop
abbrev WT := Gm → (Bool → Gm → Prop) → Prop
abbrev WA := Gm → (List R → Gm → Prop) → Prop
structure SE where
  nx : Gm → Prop
  rt : R → Gm → Prop
abbrev WS := SE → Gm → Prop
def lift (c : Cn) (w : W) : TE := fun σ H Q => ∃ Γ T Qd, Rel c σ H Γ T ∧ w Γ Qd ∧ ∀ r Γ' v H', Qd r Γ' → Rel c σ H' Γ' ((r, v) :: T) → Q v H'
def liftT (c : Cn) (w : WT) : TT := fun σ H Q => ∃ Γ T Qd, Rel c σ H Γ T ∧ w Γ Qd ∧ ∀ b Γ' H', Qd b Γ' → Rel c σ H' Γ' T → Q b H'
def liftA (c : Cn) (w : WA) : TA := fun σ H Q => ∃ Γ T Qd, Rel c σ H Γ T ∧ w Γ Qd ∧ ∀ rs Γ' vs H', Qd rs Γ' → rs.length = vs.length → Rel c σ H' Γ' (rs.zip vs ++ T) → Q vs H'
def liftS (c : Cn) (w : WS) : TS := fun E σ H => ∃ Γ T Ed, Rel c σ H Γ T ∧ w Ed Γ ∧ (∀ Γ' σ' H', Ed.nx Γ' → Rel c σ' H' Γ' T → E.nx σ' H') ∧ ∀ r Γ' v σ' H', Ed.rt r Γ' → Rel c σ' H' Γ' ((r, v) :: T) → E.rt v H'
section
variable {X : Cx} {c : Cn} {e a b : Expr} {t t' : TE} {u u' : TT} {σ : L2.St} {H : Hp} {Γ : Gm} {T T' : Ls} {r : R} {v : V}
theorem _root_.L2.PE.imp (h : PE X e t) (f : ∀ σ H Q, t' σ H Q → t σ H Q) : PE X e t' := ⟨fun pins s σ H Q I q => h.run pins s σ H Q I (f σ H Q q)⟩
theorem _root_.L2.PT.imp (h : PT X e u) (f : ∀ σ H Q, u' σ H Q → u σ H Q) : PT X e u' := ⟨fun pins s σ H Q I q => h.run pins s σ H Q I (f σ H Q q)⟩
theorem _root_.L2.PW.imp (h : PW X e u) (f : ∀ σ H Q, u' σ H Q → u σ H Q) : PW X e u' := ⟨fun w pins s σ H Q I q => h.run w pins s σ H Q I (f σ H Q q)⟩
theorem _root_.L2.PA.imp {es : List Expr} {t t' : TA} (h : PA X es t) (f : ∀ σ H Q, t' σ H Q → t σ H Q) : PA X es t' := ⟨fun p pins s σ H Q I q => h.run p pins s σ H Q I (f σ H Q q)⟩
theorem _root_.L2.PS.imp {st : Stmt} {t t' : TS} (h : PS X st t) (f : ∀ E σ H, t' E σ H → t E σ H) : PS X st t' := ⟨fun pins s σ H E I q => h.run pins s σ H E I (f E σ H q)⟩
theorem _root_.L2.PSs.imp {st : List Stmt} {t t' : TS} (h : PSs X st t) (f : ∀ E σ H, t' E σ H → t E σ H) : PSs X st t' := ⟨fun pins s σ H E I q => h.run pins s σ H E I (f E σ H q)⟩
theorem Rel.perm (h : Rel c σ H Γ T) (p : T.Perm T') : Rel c σ H Γ T' := by
  obtain ⟨F, E, he, G⟩ := h
  exact ⟨F, E, he, G.perm (p.append_left E)⟩
theorem Rel.less (h : Rel c σ H Γ T) (p : T'.Sublist T) : Rel c σ H Γ T' := by
  obtain ⟨F, E, he, G⟩ := h
  exact ⟨F, E, he, G.less ((List.Sublist.refl E).append p)⟩
theorem Rel.tail {e : R × V} (h : Rel c σ H Γ (e :: T)) : Rel c σ H Γ T := h.less (List.sublist_cons_self _ _)
theorem Rel.swap {x y : R × V} (h : Rel c σ H Γ (x :: y :: T)) : Rel c σ H Γ (y :: x :: T) := h.perm (List.Perm.swap _ _ _)
/-- the entry at hand first -/
theorem front {α : Type} (E T : List α) (x : α) : (E ++ x :: T).Perm (x :: (E ++ T)) := List.perm_middle
theorem front2 {α : Type} (E1 E2 T : List α) (x : α) : ((E1 ++ x :: E2) ++ T).Perm (x :: (E1 ++ E2 ++ T)) := by
  rw [List.append_assoc, List.append_assoc]
  exact List.perm_middle
/-- a good state over which a step is made: what it comes to -/
theorem Rel.step {H' : Hp} {L : Ls} (h : Rel c σ H Γ T) (f : ∀ F L, Good c F H (L ++ T) → ∃ F', Good c F' H' (L ++ T')) : Rel c σ H' Γ T' := by
  obtain ⟨F, E, he, G⟩ := h
  obtain ⟨F', G'⟩ := f F E G
  exact ⟨F', E, he, G'⟩
/-! ### slots -/
def nth : Gm → Nat → Option R
  | [], _ => none
  | x :: _, 0 => x
  | _ :: l, n + 1 => nth l n
theorem nth_some : ∀ {Γ : Gm} {i : Nat} {r : R}, nth Γ i = some r → Γ[i]? = some (some r)
  | [], _, _, h => by cases h
  | x :: _, 0, _, h => by
    have h : x = _ := h
    simp [h]
  | _ :: l, n + 1, _, h => by
    have h : nth l n = _ := h
    simpa using nth_some h
def put : Gm → Nat → R → Gm
  | [], _, _ => []
  | _ :: l, 0, r => some r :: l
  | x :: l, n + 1, r => x :: put l n r
theorem put_set : ∀ (Γ : Gm) (i : Nat) (r : R), put Γ i r = Γ.set i (some r)
  | [], _, _ => rfl
  | _ :: _, 0, _ => rfl
  | x :: l, n + 1, r => by
    show x :: put l n r = x :: l.set n (some r)
    rw [put_set l n r]
def R.look (i : Nat) : R → R
  | .dat d => .dat d
  | .lst _ a _ => .adr i a
  | .dk _ _ a _ => .adr i a
  | .dt _ _ a _ => .adr i a
  | .adr j a => .adr j a
def wN (i : Nat) : W := fun Γ Q => match nth Γ i with
  | some r => Q (r.look i) Γ
  | none => False
theorem RepR.look {F : Hp} {i : Nat} (h : RepR c F H r v) : RepR c F H (r.look i) v ∧ (r.look i).ad = [] := by
  cases r with
  | dat d => exact ⟨h, rfl⟩
  | lst p a l => exact ⟨h.1, rfl⟩
  | dk p z a l => exact ⟨h.1, rfl⟩
  | dt p z a l => exact ⟨h.1, rfl⟩
  | adr j a => exact ⟨h, rfl⟩
theorem pd_n (i : Nat) {x : Str} {pos : Pos} (hN : X.N[i]? = some x := by rfl) (hv : Vis X.env.scope x := by first | exact Or.inl rfl | exact Or.inr (Or.inl rfl) | exact Or.inr (Or.inr rfl)) (hd : (x == ("__debug__" : Str)) = false := by decide)
    (hcd : (x == ("__classdict__" : Str)) = false := by decide) : PE X (.Name x pos) (lift c (wN i)) := by
  refine (pe_var hN hv hd hcd).imp fun σ H Q ⟨Γ, T, Qd, hR, hw, k⟩ => ?_
  unfold wN at hw
  split at hw
  · rename_i r hr
    obtain ⟨F, E, he, G⟩ := hR
    obtain ⟨v, E1, E2, h1, rfl, h3, _⟩ := he.at (nth_some hr)
    have q := G.rep (r, v) (by simp)
    obtain ⟨q1, q2⟩ := RepR.look (i := i) q
    exact ⟨v, h1, k _ _ _ _ hw ⟨F, _, he, (G.also q1 q2).perm (front _ _ _).symm⟩⟩
  · exact hw.elim
def wD (d : D) : W := fun Γ Q => Q (.dat d) Γ
theorem lift_const {d : D} {x : V} (h : ∀ K F, RepD K F d x) {Q : VK} (q : lift c (wD d) σ H Q) : Q x H := by
  obtain ⟨Γ, T, Qd, ⟨F, E, he, G⟩, hw, k⟩ := q
  exact k _ _ _ _ hw ⟨F, E, he, (G.also (r := .dat d) (h _ _) rfl).perm (front _ _ _).symm⟩
theorem pd_int {i j pos} : PE X (.Constant (.int i) j pos) (lift c (wD (.int i))) := pe_int.imp fun σ H Q q => lift_const (d := .int i) (x := .int i) (fun _ _ => rfl) q
theorem pd_bl {b j pos} : PE X (.Constant (.bool b) j pos) (lift c (wD (.bl b))) := pe_bl.imp fun σ H Q q => lift_const (d := .bl b) (x := .bl b) (fun _ _ => rfl) q
theorem pd_non {j pos} : PE X (.Constant .none j pos) (lift c (wD .non)) := pe_non.imp fun σ H Q q => lift_const (d := .non) (x := .non) (fun _ _ => rfl) q
theorem pd_str {x j pos} : PE X (.Constant (.str x) j pos) (lift c (wD (.str x))) := pe_str.imp fun σ H Q q => lift_const (d := .str x) (x := .str x) (fun _ _ => rfl) q
/-- a module's constant -/
theorem pd_gint {x : Str} {i : Int} {t : Tok} {pos : Pos} (hm : X.mg x = some (.int i t)) (hg : Gl X x := by rfl) (hd : (x == ("__debug__" : Str)) = false := by decide) : PE X (.Name x pos) (lift c (wD (.int i))) := (pe_glob (v := .int i) hg hm ⟨t, rfl⟩ hd).imp fun σ H Q q => lift_const (d := .int i) (x := .int i) (fun _ _ => rfl) q
theorem pd_gstr {x : Str} {i : Str} {t : Tok} {pos : Pos} (hm : X.mg x = some (.str i t)) (hg : Gl X x := by rfl) (hd : (x == ("__debug__" : Str)) = false := by decide) : PE X (.Name x pos) (lift c (wD (.str i))) := (pe_glob (v := .str i) hg hm ⟨t, rfl⟩ hd).imp fun σ H Q q => lift_const (d := .str i) (x := .str i) (fun _ _ => rfl) q
/-! ### argument lists -/
def waN : WA := fun Γ Q => Q [] Γ
def waC (w : W) (t : WA) : WA := fun Γ Q => w Γ fun r Γ1 => t Γ1 fun rs Γ2 => Q (r :: rs) Γ2
theorem pda_nil : PA X [] (liftA c waN) := pa_nil.imp fun σ H Q ⟨Γ, T, Qd, hR, hw, k⟩ => k _ _ [] _ hw rfl hR
theorem pda_cons {es : List Expr} {w : W} {t : WA} (ha : PE X e (lift c w)) (hr : PA X es (liftA c t)) (hs : starEach (e :: es) X.env = (false, eval e X.env) :: starEach es X.env := by rfl) : PA X (e :: es) (liftA c (waC w t)) := by
  refine (pa_cons ha hr hs).imp fun σ H Q ⟨Γ, T, Qd, hR, hw, k⟩ => ?_
  refine ⟨Γ, T, _, hR, hw, fun r Γ1 v H1 q1 R1 => ⟨Γ1, _, _, R1, q1, fun rs Γ2 vs H2 q2 hl R2 => k _ _ _ _ q2 (by simp [hl]) (R2.perm ?_)⟩⟩
  exact front _ _ _
/-! ### reading what a result holds, freezing it -/
abbrev dkOf (kvs : List (Key × D)) : D := .dk (kvs.map (·.1)) (kvs.map (·.2))
abbrev dtOf (kvs : List (List Key × D)) : D := .dt (kvs.map (·.1)) (kvs.map (·.2))
def peek (Γ : Gm) : R → (D → Prop) → Prop
  | .dat d, k => k d
  | .lst _ _ l, k => k (.lst l)
  | .dk _ _ _ kvs, k => k (dkOf kvs)
  | .dt _ _ _ kvs, k => k (dtOf kvs)
  | .adr i a, k => match nth Γ i with
    | some (.lst _ b l) => b = a ∧ k (.lst l)
    | some (.dk _ _ b kvs) => b = a ∧ k (dkOf kvs)
    | some (.dt _ _ b kvs) => b = a ∧ k (dtOf kvs)
    | _ => False
/-- data whose outermost object stands in H -/
def RdD (K : PySem.W.Frag) (F H : Hp) : D → V → Prop
  | .lst l, v => ∃ a xs, v = .ref a ∧ H a = some (.lst xs) ∧ RepL K F l xs
  | .dk ks vs, v => ∃ a kvs, v = .ref a ∧ Rd H a (.dK kvs) ∧ kvs.map (·.1) = ks ∧ RepL K F vs (kvs.map (·.2))
  | .dt ks vs, v => ∃ a kvs, v = .ref a ∧ Rd H a (.dT kvs) ∧ kvs.map (·.1) = ks ∧ RepL K F vs (kvs.map (·.2))
  | d, v => RepD K F d v
theorem rd_lkd {z : Option Obj} {a : Addr} {o : HO} (h : H a = some (lkd z o)) : Rd H a o := by
  cases z with
  | none => exact .inl h
  | some od => exact .inr ⟨od, h⟩
theorem RdD.of {K : PySem.W.Frag} {F : Hp} (s : Same F H) : ∀ {d : D}, RepD K F d v → RdD K F H d v
  | .lst l, ⟨a, xs, e, f, q⟩ => ⟨a, xs, e, s _ _ f, q⟩
  | .dk ks l, ⟨a, xs, e, f, g, q⟩ => ⟨a, xs, e, .inl (s _ _ f), g, q⟩
  | .dt ks l, ⟨a, xs, e, f, g, q⟩ => ⟨a, xs, e, .inl (s _ _ f), g, q⟩
  | .non, h => h
  | .bl _, h => h
  | .int _, h => h
  | .str _, h => h
  | .tup _, h => h
  | .scr _, h => h
theorem Good.peek {F : Hp} {E L : Ls} {k : D → Prop} (G : Good c F H L) (he : Ents Γ σ E) (hE : ∀ x ∈ E, x ∈ L) (hm : (r, v) ∈ L) (h : peek Γ r k) : ∃ d, k d ∧ RdD c.K F H d v := by
  have q := G.rep _ hm
  cases r with
  | dat d => exact ⟨d, h, RdD.of G.sub q⟩
  | lst p a l =>
    obtain ⟨e, _, _, xs, hx, z⟩ := q
    exact ⟨.lst l, h, a, xs, e, hx, z⟩
  | dk p z a l =>
    obtain ⟨e, _, _, xs, hx, g, z⟩ := q
    exact ⟨dkOf l, h, a, xs, e, rd_lkd hx, g, z⟩
  | dt p z a l =>
    obtain ⟨e, _, _, xs, hx, g, z⟩ := q
    exact ⟨dtOf l, h, a, xs, e, rd_lkd hx, g, z⟩
  | adr i a =>
    have e1 : v = .ref a := q
    simp only [Dl.peek] at h
    split at h
    · rename_i p b l hb
      obtain ⟨v', E1, E2, _, rfl, _, _⟩ := he.at (nth_some hb)
      obtain ⟨e, _, _, xs, hx, z⟩ := G.rep (.lst p b l, v') (hE _ (by simp))
      rw [h.1] at hx
      exact ⟨.lst l, h.2, a, xs, e1, hx, z⟩
    · rename_i p zz b l hb
      obtain ⟨v', E1, E2, _, rfl, _, _⟩ := he.at (nth_some hb)
      obtain ⟨e, _, _, xs, hx, g, z⟩ := G.rep (.dk p zz b l, v') (hE _ (by simp))
      rw [h.1] at hx
      exact ⟨dkOf l, h.2, a, xs, e1, rd_lkd hx, g, z⟩
    · rename_i p zz b l hb
      obtain ⟨v', E1, E2, _, rfl, _, _⟩ := he.at (nth_some hb)
      obtain ⟨e, _, _, xs, hx, g, z⟩ := G.rep (.dt p zz b l, v') (hE _ (by simp))
      rw [h.1] at hx
      exact ⟨dtOf l, h.2, a, xs, e1, rd_lkd hx, g, z⟩
    · exact h.elim
/-- as data for good: what a def's own list or dict holds is not changed any more -/
def take (r : R) (Γ : Gm) (k : D → Gm → Prop) : Prop := match r with
  | .dat d => k d Γ
  | .lst false _ l => k (.lst l) Γ
  | .dk false none _ kvs => k (dkOf kvs) Γ
  | .dt false none _ kvs => k (dtOf kvs) Γ
  | .adr i a => match nth Γ i with
    | some (.lst false b l) => b = a ∧ k (.lst l) (put Γ i (.dat (.lst l)))
    | some (.dk false none b kvs) => b = a ∧ k (dkOf kvs) (put Γ i (.dat (dkOf kvs)))
    | some (.dt false none b kvs) => b = a ∧ k (dtOf kvs) (put Γ i (.dat (dtOf kvs)))
    | _ => False
  | _ => False
/-- a result that freezes to d, its object at a -/
inductive Mine : R → Addr → D → Prop where
  | lst (a : Addr) (l : List D) : Mine (.lst false a l) a (.lst l)
  | dk (a : Addr) (kvs : List (Key × D)) : Mine (.dk false none a kvs) a (dkOf kvs)
  | dt (a : Addr) (kvs : List (List Key × D)) : Mine (.dt false none a kvs) a (dtOf kvs)
theorem Mine.ref {F : Hp} {a : Addr} {d : D} (m : Mine r a d) (h : RepR c F H r v) : v = .ref a := by
  cases m with
  | lst a l => exact h.1
  | dk a l => exact h.1
  | dt a l => exact h.1
theorem Good.iceOwn {F : Hp} {L : Ls} {r : R} {d : D} {a : Addr} (G : Good c F H ((r, v) :: L)) (h : Mine r a d) : ∃ F', Good c F' H ((.dat d, v) :: L) := by
  have q := G.rep _ List.mem_cons_self
  have sm : ∀ {a : Addr} {o : HO}, F a = none → Same F (upd F a o) := fun {a o} hF b x e => by
    rw [upd_ne (ne_of_none e hF)]
    exact e
  cases h with
  | lst a l =>
    obtain ⟨e, f, h0, xs, hx, z⟩ := q
    exact ⟨_, G.ice rfl hx h0 ⟨a, xs, e, upd_same, RepL.mono (sm f) _ _ z⟩⟩
  | dk a l =>
    obtain ⟨e, f, h0, xs, hx, g, z⟩ := q
    exact ⟨_, G.ice rfl hx h0 ⟨a, xs, e, upd_same, g, RepL.mono (sm f) _ _ z⟩⟩
  | dt a l =>
    obtain ⟨e, f, h0, xs, hx, g, z⟩ := q
    exact ⟨_, G.ice rfl hx h0 ⟨a, xs, e, upd_same, g, RepL.mono (sm f) _ _ z⟩⟩
theorem Rel.take {k : D → Gm → Prop} (h : Rel c σ H Γ ((r, v) :: T)) (q : take r Γ k) : ∃ d Γ', k d Γ' ∧ Rel c σ H Γ' ((.dat d, v) :: T) := by
  have go : ∀ {a : Addr} (d : D), Mine r a d → Rel c σ H Γ ((.dat d, v) :: T) := fun d z => by
    obtain ⟨F, E, he, G⟩ := h
    obtain ⟨F', G'⟩ := (G.perm (front _ _ _)).iceOwn z
    exact ⟨F', E, he, G'.perm (front _ _ _).symm⟩
  unfold Dl.take at q
  split at q
  · exact ⟨_, Γ, q, h⟩
  · exact ⟨_, Γ, q, go _ (.lst _ _)⟩
  · exact ⟨_, Γ, q, go _ (.dk _ _)⟩
  · exact ⟨_, Γ, q, go _ (.dt _ _)⟩
  · rename_i i a
    -- the slot's object
    have core : ∀ (r0 : R) (d : D), nth Γ i = some r0 → Mine r0 a d → Rel c σ H (put Γ i (.dat d)) ((.dat d, v) :: T) := fun r0 d hr z => by
      obtain ⟨F, E, he, G⟩ := h
      obtain ⟨v', E1, E2, h1, rfl, h3, _⟩ := he.at (nth_some hr)
      have ev : v = .ref a := G.rep (.adr i a, v) (by simp)
      have ev' : v' = .ref a := z.ref (G.rep (r0, v') (by simp))
      have G1 : Good c F H ((r0, v') :: (E1 ++ E2 ++ T)) := ((G.perm (front _ _ _)).tail).perm (front2 _ _ _ _)
      obtain ⟨F', G'⟩ := G1.iceOwn z
      have rep : RepR c F' H (.dat d) v := by
        rw [ev, ← ev']
        exact G'.rep _ List.mem_cons_self
      refine ⟨F', E1 ++ (.dat d, v') :: E2, ?_, ((G'.perm (front2 _ _ _ _).symm).also rep rfl).perm (front _ _ _).symm⟩
      rw [put_set]
      exact h3 (.dat d)
    split at q
    · rename_i b l hb
      obtain ⟨rfl, q⟩ := q
      exact ⟨_, _, q, core _ _ hb (.lst _ _)⟩
    · rename_i b l hb
      obtain ⟨rfl, q⟩ := q
      exact ⟨_, _, q, core _ _ hb (.dk _ _)⟩
    · rename_i b l hb
      obtain ⟨rfl, q⟩ := q
      exact ⟨_, _, q, core _ _ hb (.dt _ _)⟩
    · exact q.elim
  · exact q.elim
def takes : List R → Gm → (List D → Gm → Prop) → Prop
  | [], Γ, k => k [] Γ
  | r :: rs, Γ, k => take r Γ fun d Γ1 => takes rs Γ1 fun ds Γ2 => k (d :: ds) Γ2
/-- all of a list of results, frozen -/
theorem Rel.takes : ∀ {rs : List R} {vs : List V} {Γ : Gm} {T : Ls} {k : List D → Gm → Prop}, rs.length = vs.length → Rel c σ H Γ (rs.zip vs ++ T) → takes rs Γ k →
    ∃ ds Γ', k ds Γ' ∧ Rel c σ H Γ' ((ds.map R.dat).zip vs ++ T) ∧ ds.length = vs.length
  | [], [], Γ, T, k, _, h, q => ⟨[], Γ, q, h, rfl⟩
  | [], _ :: _, _, _, _, e, _, _ => by simp at e
  | _ :: _, [], _, _, _, e, _, _ => by simp at e
  | r :: rs, v :: vs, Γ, T, k, e, h, q => by
    obtain ⟨d, Γ1, q1, h1⟩ := Rel.take (T := rs.zip vs ++ T) h q
    obtain ⟨ds, Γ2, q2, h2, e2⟩ := Rel.takes (T := (.dat d, v) :: T) (by simpa using e) (h1.perm (front _ _ _).symm) q1
    exact ⟨d :: ds, Γ2, q2, h2.perm (front _ _ _), by simp [e2]⟩
theorem Good.repL {F : Hp} : ∀ {ds : List D} {vs : List V} {L : Ls}, ds.length = vs.length → Good c F H ((ds.map R.dat).zip vs ++ L) → RepL c.K F ds vs
  | [], [], _, _, _ => rfl
  | [], _ :: _, _, e, _ => by simp at e
  | _ :: _, [], _, e, _ => by simp at e
  | d :: ds, v :: vs, L, e, G => ⟨v, vs, rfl, G.rep (.dat d, v) (by simp), Good.repL (L := L) (by simpa using e) G.tail⟩
/-! ### displays -/
def wTup (t : WA) : W := fun Γ Q => t Γ fun rs Γ1 => takes rs Γ1 fun ds Γ2 => ds.length ≤ 1000000 ∧ Q (.dat (.tup ds)) Γ2
def wLst (t : WA) : W := fun Γ Q => t Γ fun rs Γ1 => takes rs Γ1 fun ds Γ2 => ds.length ≤ 1000000 ∧ ∀ a, Q (.lst false a ds) Γ2
theorem lineM {n : Nat} (h : n ≤ 1000000) : n ≤ sizeLine := by
  rw [sizeLine_eq]
  omega
theorem lineL {n : Nat} (h : n < 1000000) : n < sizeLine := by
  rw [sizeLine_eq]
  omega
theorem pd_tup {es : List Expr} {t : WA} {k pos} (h : PA X es (liftA c t)) : PE X (.Tuple es k pos) (lift c (wTup t)) := by
  refine (pe_tup h).imp fun σ H Q ⟨Γ, T, Qd, hR, hw, kk⟩ => ?_
  refine ⟨Γ, T, _, hR, hw, fun rs Γ1 vs H1 q1 hl R1 => ?_⟩
  obtain ⟨ds, Γ2, ⟨hz, q2⟩, R2, e2⟩ := R1.takes hl q1
  refine ⟨lineM (by omega), fun p hp => kk _ _ _ _ q2 ?_⟩
  obtain ⟨F, E, he, G⟩ := R2
  have G1 : Good c F H1 ((ds.map R.dat).zip vs ++ (E ++ T)) := G.perm (by rw [← List.append_assoc, ← List.append_assoc]; exact List.Perm.append_right _ List.perm_append_comm)
  have G2 := (G1.newTup hp (Good.repL e2 G1))
  refine ⟨_, E, he, (G2.less (L' := (.dat (.tup ds), .ref p) :: (E ++ T)) ?_).perm (front _ _ _).symm⟩
  exact (List.sublist_append_right _ _).cons₂ _
theorem pd_lst {es : List Expr} {t : WA} {pos} (h : PA X es (liftA c t)) : PE X (.List es pos) (lift c (wLst t)) := by
  refine (pe_lst h).imp fun σ H Q ⟨Γ, T, Qd, hR, hw, kk⟩ => ?_
  refine ⟨Γ, T, _, hR, hw, fun rs Γ1 vs H1 q1 hl R1 => ?_⟩
  obtain ⟨ds, Γ2, ⟨hz, q2⟩, R2, e2⟩ := R1.takes hl q1
  refine ⟨lineM (by omega), fun p hp => kk _ _ _ _ (q2 p) ?_⟩
  obtain ⟨F, E, he, G⟩ := R2
  have G1 : Good c F H1 ((ds.map R.dat).zip vs ++ (E ++ T)) := G.perm (by rw [← List.append_assoc, ← List.append_assoc]; exact List.Perm.append_right _ List.perm_append_comm)
  have G2 := (G1.newOwn hp (Good.repL e2 G1))
  refine ⟨_, E, he, (G2.less (L' := (.lst false p ds, .ref p) :: (E ++ T)) ?_).perm (front _ _ _).symm⟩
  exact (List.sublist_append_right _ _).cons₂ _
end
end Dl
/-! ## operators, comparisons, tests -/
namespace Dl
open PySem PySem.Spec PyProof.Rows
open L2
mutual
def toP : D → PyData
  | .non => .none
  | .bl b => .bool b
  | .int i => .int i
  | .str s => .str s
  | .tup l => .tuple (toPs l)
  | .lst l => .list (toPs l)
  | .dk _ _ => .dict []
  | .dt _ _ => .dict []
  | .scr _ => .dict []
def toPs : List D → List PyData
  | [] => []
  | d :: l => toP d :: toPs l
end
mutual
/-- plain data (no dict), at most n deep -/
def sh : D → Nat → Bool
  | .non, _ => true
  | .bl _, _ => true
  | .int _, _ => true
  | .str s, _ => PyData.strOk s
  | .tup l, n => decide (0 < n) && shs l (n - 1)
  | .lst l, n => decide (0 < n) && shs l (n - 1)
  | .dk _ _, _ => false
  | .dt _ _, _ => false
  | .scr _, _ => false
def shs : List D → Nat → Bool
  | [], _ => true
  | d :: l, n => sh d n && shs l n
end
mutual
theorem sh_lay : ∀ (d : D) (n : Nat), sh d n = true → (toP d).canLay0 = true ∧ (toP d).depth ≤ n
  | .non, _, _ => ⟨by simp only [toP, PyData.canLay0], by simp only [toP, PyData.depth]; exact Nat.zero_le _⟩
  | .bl _, _, _ => ⟨by simp only [toP, PyData.canLay0], by simp only [toP, PyData.depth]; exact Nat.zero_le _⟩
  | .int _, _, _ => ⟨by simp only [toP, PyData.canLay0], by simp only [toP, PyData.depth]; exact Nat.zero_le _⟩
  | .str s, _, h => ⟨by simp only [toP, PyData.canLay0]; exact h, by simp only [toP, PyData.depth]; exact Nat.zero_le _⟩
  | .tup l, n, h => by
    have h' : (decide (0 < n) && shs l (n - 1)) = true := h
    rw [Bool.and_eq_true, decide_eq_true_eq] at h'
    obtain ⟨a, b⟩ := shs_lay l _ h'.2
    exact ⟨by simp only [toP, PyData.canLay0]; exact a, by simp only [toP, PyData.depth]; omega⟩
  | .lst l, n, h => by
    have h' : (decide (0 < n) && shs l (n - 1)) = true := h
    rw [Bool.and_eq_true, decide_eq_true_eq] at h'
    obtain ⟨a, b⟩ := shs_lay l _ h'.2
    exact ⟨by simp only [toP, PyData.canLay0]; exact a, by simp only [toP, PyData.depth]; omega⟩
  | .dk _ _, _, h => by cases (show false = true from h)
  | .dt _ _, _, h => by cases (show false = true from h)
  | .scr _, _, h => by cases (show false = true from h)
theorem shs_lay : ∀ (l : List D) (n : Nat), shs l n = true → PyData.canLayAll0 (toPs l) = true ∧ PyData.depthAll (toPs l) ≤ n
  | [], _, _ => ⟨by simp only [toPs, PyData.canLayAll0], by simp only [toPs, PyData.depthAll]; exact Nat.zero_le _⟩
  | d :: l, n, h => by
    have h' : (sh d n && shs l n) = true := h
    rw [Bool.and_eq_true] at h'
    obtain ⟨a, b⟩ := sh_lay d _ h'.1
    obtain ⟨a', b'⟩ := shs_lay l _ h'.2
    exact ⟨by simp only [toPs, PyData.canLayAll0, a, a', Bool.and_self], by simp only [toPs, PyData.depthAll]; omega⟩
end
theorem sh_shaped {d : D} (h : sh d 60 = true) : SeqAt.shaped (toP d) = true := by
  obtain ⟨a, b⟩ := sh_lay d _ h
  unfold SeqAt.shaped
  rw [a, decide_eq_true (by omega)]
  rfl
section
variable {K : PySem.W.Frag} {F H : Hp}
mutual
theorem dp_rep (s : Same F H) : ∀ (d : D) (n : Nat) (v : V), sh d n = true → RepD K F d v → Dp K H v (toP d)
  | .non, _, _, _, r => by cases (show _ = V.non from r); simp only [toP]; exact .non
  | .bl b, _, _, _, r => by cases (show _ = V.bl b from r); simp only [toP]; exact .bl b
  | .int i, _, _, _, r => by cases (show _ = V.int i from r); simp only [toP]; exact .int i
  | .str i, _, _, _, r => by cases (show _ = V.str i from r); simp only [toP]; exact .str i
  | .tup l, n, _, h, r => by
    have h' : (decide (0 < n) && shs l (n - 1)) = true := h
    rw [Bool.and_eq_true] at h'
    obtain ⟨a, xs, rfl, f, q⟩ := r
    simp only [toP]
    exact .tup (SqT.of (s _ _ f)) (dps_rep s l _ xs h'.2 q)
  | .lst l, n, _, h, r => by
    have h' : (decide (0 < n) && shs l (n - 1)) = true := h
    rw [Bool.and_eq_true] at h'
    obtain ⟨a, xs, rfl, f, q⟩ := r
    simp only [toP]
    exact .lst (SqL.of (s _ _ f)) (dps_rep s l _ xs h'.2 q)
  | .dk _ _, _, _, h, _ => by cases (show false = true from h)
  | .dt _ _, _, _, h, _ => by cases (show false = true from h)
  | .scr _, _, _, h, _ => by cases (show false = true from h)
theorem dps_rep (s : Same F H) : ∀ (l : List D) (n : Nat) (xs : List V), shs l n = true → RepL K F l xs → DpAll K H xs (toPs l)
  | [], _, xs, _, r => by cases (show xs = [] from r); simp only [toPs]; exact .nil
  | d :: l, n, xs, h, r => by
    have h' : (sh d n && shs l n) = true := h
    rw [Bool.and_eq_true] at h'
    obtain ⟨x, xr, rfl, r1, r2⟩ := r
    simp only [toPs]
    exact .cons (dp_rep s d n x h'.1 r1) (dps_rep s l n xr h'.2 r2)
end
theorem dp_read (s : Same F H) {d : D} {n : Nat} {v : V} (h : sh d n = true) (r : RdD K F H d v) : Dp K H v (toP d) := by
  cases d with
  | lst l =>
    have h' : (decide (0 < n) && shs l (n - 1)) = true := h
    rw [Bool.and_eq_true] at h'
    obtain ⟨a, xs, rfl, f, q⟩ := r
    simp only [toP]
    exact .lst (SqL.of f) (dps_rep s l _ xs h'.2 q)
  | dk _ _ => cases (show false = true from h)
  | dt _ _ => cases (show false = true from h)
  | scr _ => cases (show false = true from h)
  | non => exact dp_rep s _ n v h r
  | bl _ => exact dp_rep s _ n v h r
  | int _ => exact dp_rep s _ n v h r
  | str _ => exact dp_rep s _ n v h r
  | tup _ => exact dp_rep s _ n v h r
end
/-- Python's == -/
def eqD (d e : D) : Bool := PyData.eqv (toP d) (toP e)
/-! ### operators by values -/
abbrev BOp := D → D → (R → Prop) → Prop
structure OpOk (X : Cx) (c : Cn) (f : Value → Value → Sem Value) (g : BOp) : Prop where
  ex : ∃ rr, OpR X f rr ∧ ∀ F H L x y d e Qd Q, Good c F H L → RdD c.K F H d x → RdD c.K F H e y → g d e Qd → (∀ r v H' F', Qd r → Good c F' H' ((r, v) :: L) → Q v H') → rr x y H Q
def wBin (g : BOp) (wa wb : W) : W := fun Γ Q => wa Γ fun r1 Γ1 => wb Γ1 fun r2 Γ2 => peek Γ2 r1 fun d => peek Γ2 r2 fun e => g d e fun r => Q r Γ2
section
variable {X : Cx} {c : Cn} {e a b : Expr} {σ : L2.St} {H : Hp} {Γ : Gm} {T : Ls} {wa wb wc : W} {pos : Pos} {g g' : BOp}
/-- both operands read, the answer laid -/
theorem bin_end {rr : R2} {x y : V} {r1 r2 : R} {Q : VK} {Qd : R → Gm → Prop}
    (ex : ∀ F H L x y d e Qd Q, Good c F H L → RdD c.K F H d x → RdD c.K F H e y → g d e Qd → (∀ r v H' F', Qd r → Good c F' H' ((r, v) :: L) → Q v H') → rr x y H Q)
    (h : Rel c σ H Γ ((r2, y) :: (r1, x) :: T)) (q : peek Γ r1 fun d => peek Γ r2 fun e => g d e fun r => Qd r Γ) (k : ∀ r v H', Qd r Γ → Rel c σ H' Γ ((r, v) :: (r2, y) :: (r1, x) :: T) → Q v H') : rr x y H Q := by
  obtain ⟨F, E, he, G⟩ := h
  obtain ⟨d, q, rd⟩ := G.peek (r := r1) (v := x) he (fun z hz => List.mem_append_left _ hz) (by simp) q
  obtain ⟨e, q, re⟩ := G.peek (r := r2) (v := y) he (fun z hz => List.mem_append_left _ hz) (by simp) q
  exact ex F H _ x y d e (fun r => Qd r Γ) Q G rd re q fun r v H' F' hq G' => k r v H' hq ⟨F', E, he, G'.perm (front _ _ _).symm⟩
theorem pd_bin {op : Operator} (ho : OpOk X c (binaryOp op) g) (ha : PE X a (lift c wa)) (hb : PE X b (lift c wb)) : PE X (.BinOp a op b pos) (lift c (wBin g wa wb)) := by
  obtain ⟨rr, h1, h2⟩ := ho.ex
  refine (pe_op h1 ha hb).imp fun σ H Q ⟨Γ, T, Qd, hR, hw, k⟩ => ?_
  refine ⟨Γ, T, _, hR, hw, fun r1 Γ1 x H1 q1 R1 => ⟨Γ1, _, _, R1, q1, fun r2 Γ2 y H2 q2 R2 => ?_⟩⟩
  exact bin_end h2 R2 q2 fun r v H' hq R' => k _ _ _ _ hq (R'.perm (List.Perm.cons _ (List.Perm.refl _)) |>.less ((List.Sublist.cons _ (List.Sublist.cons _ (List.Sublist.refl _))).cons₂ _))
theorem pd_cmp {op : CmpOp} (ho : OpOk X c (compareOp op) g) (ha : PE X a (lift c wa)) (hb : PE X b (lift c wb)) (hm : behindInMarks op b = false := by first | exact nomark _ | rfl) : PE X (.Compare a [op] [b] pos) (lift c (wBin g wa wb)) := by
  obtain ⟨rr, h1, h2⟩ := ho.ex
  refine (pe_cmpR h1 ha hb hm).imp fun σ H Q ⟨Γ, T, Qd, hR, hw, k⟩ => ?_
  refine ⟨Γ, T, _, hR, hw, fun r1 Γ1 x H1 q1 R1 => ⟨Γ1, _, _, R1, q1, fun r2 Γ2 y H2 q2 R2 => ?_⟩⟩
  exact bin_end h2 R2 q2 fun r v H' hq R' => k _ _ _ _ hq (R'.less ((List.Sublist.cons _ (List.Sublist.cons _ (List.Sublist.refl _))).cons₂ _))
/-- a value that is True or False, as a test -/
def wTv (w : W) : WT := fun Γ Q => w Γ fun r Γ1 => match r with
  | .dat (.bl b) => Q b Γ1
  | _ => False
theorem test_end {w : W} {t : TE} {Q : Bool → Hp → Prop} (imp : ∀ σ H Q, lift c w σ H Q → t σ H Q) (q : liftT c (wTv w) σ H Q) : tTest t σ H Q := by
  obtain ⟨Γ, T, Qd, hR, hw, k⟩ := q
  refine imp _ _ _ ⟨Γ, T, _, hR, hw, fun r Γ1 v H1 q1 R1 => ?_⟩
  split at q1
  · rename_i bb
    obtain ⟨F, E, he, G⟩ := R1
    have z : v = .bl bb := G.rep (.dat (.bl bb), v) (by simp)
    exact ⟨_, z, k _ _ _ q1 ⟨F, E, he, (G.perm (front _ _ _)).tail⟩⟩
  · exact q1.elim
theorem ptd_cmp {op : CmpOp} (ho : OpOk X c (compareOp op) g) (ha : PE X a (lift c wa)) (hb : PE X b (lift c wb)) (hm : behindInMarks op b = false := by first | exact nomark _ | rfl) : PT X (.Compare a [op] [b] pos) (liftT c (wTv (wBin g wa wb))) := by
  obtain ⟨rr, h1, h2⟩ := ho.ex
  refine (pt_cmpR h1 ha hb hm).imp fun σ H Q q => test_end (t := tOp rr (lift c wa) (lift c wb)) (fun σ H Q ⟨Γ, T, Qd, hR, hw, k⟩ => ?_) q
  refine ⟨Γ, T, _, hR, hw, fun r1 Γ1 x H1 q1 R1 => ⟨Γ1, _, _, R1, q1, fun r2 Γ2 y H2 q2 R2 => ?_⟩⟩
  exact bin_end h2 R2 q2 fun r v H' hq R' => k _ _ _ _ hq (R'.less ((List.Sublist.cons _ (List.Sublist.cons _ (List.Sublist.refl _))).cons₂ _))
theorem ptd_val {w : W} (h : PE X e (lift c w)) (he : ∀ whole, isTrue e X.env whole = (do let v ← whole; standAt e.pos; holding [v] (truthy v)) := by intro _; rfl) : PT X e (liftT c (wTv w)) :=
  (pt_val h he).imp fun σ H Q q => test_end (t := lift c w) (fun _ _ _ z => z) q
/-- a < b < c -/
def wChain (g g' : BOp) (wa wb wc : W) : W := fun Γ Q => wa Γ fun r1 Γ1 => wb Γ1 fun r2 Γ2 => peek Γ2 r1 fun d => peek Γ2 r2 fun e => g d e fun r => match r with
  | .dat (.bl true) => wc Γ2 fun r3 Γ3 => peek Γ3 r2 fun e => peek Γ3 r3 fun f => g' e f fun r => Q r Γ3
  | .dat (.bl false) => Q (.dat (.bl false)) Γ2
  | _ => False
theorem chain_end {rr rr' : R2} {Q : VK}
    (h2 : ∀ F H L x y d e Qd Q, Good c F H L → RdD c.K F H d x → RdD c.K F H e y → g d e Qd → (∀ r v H' F', Qd r → Good c F' H' ((r, v) :: L) → Q v H') → rr x y H Q)
    (h2' : ∀ F H L x y d e Qd Q, Good c F H L → RdD c.K F H d x → RdD c.K F H e y → g' d e Qd → (∀ r v H' F', Qd r → Good c F' H' ((r, v) :: L) → Q v H') → rr' x y H Q)
    (q : lift c (wChain g g' wa wb wc) σ H Q) : tChain rr rr' (lift c wa) (lift c wb) (lift c wc) σ H Q := by
  obtain ⟨Γ, T, Qd, hR, hw, k⟩ := q
  refine ⟨Γ, T, _, hR, hw, fun r1 Γ1 x H1 q1 R1 => ⟨Γ1, _, _, R1, q1, fun r2 Γ2 y H2 q2 R2 => ?_⟩⟩
  refine bin_end (Qd := fun r Γ2 => match r with
    | .dat (.bl true) => wc Γ2 fun r3 Γ3 => peek Γ3 r2 fun e => peek Γ3 r3 fun f => g' e f fun r => Qd r Γ3
    | .dat (.bl false) => Qd (.dat (.bl false)) Γ2
    | _ => False) h2 R2 q2 fun r v H' hq R' => ?_
  have hv : ∀ b, r = .dat (.bl b) → v = .bl b := fun b z => by
    obtain ⟨F, E, he, G⟩ := R'
    subst z
    exact G.rep (.dat (.bl b), v) (by simp)
  split at hq
  · refine ⟨true, hv _ rfl, ?_⟩
    rw [if_pos rfl]
    refine ⟨Γ2, _, _, R', hq, fun r3 Γ3 z H3 q3 R3 => ?_⟩
    obtain ⟨F, E, he, G⟩ := R3
    obtain ⟨d, q, rd⟩ := G.peek (r := r2) (v := y) he (fun z hz => List.mem_append_left _ hz) (by simp) q3
    obtain ⟨e, q, re⟩ := G.peek (r := r3) (v := z) he (fun z hz => List.mem_append_left _ hz) (by simp) q
    refine h2' F H3 _ y z d e (fun r => Qd r Γ3) Q G rd re q fun r v H' F' hq G' => k r Γ3 v H' hq ⟨F', E, he, (G'.perm (front _ _ _).symm).less ?_⟩
    refine (List.Sublist.refl E).append (List.Sublist.cons₂ _ ?_)
    exact .cons _ (.cons _ (.cons _ (.cons _ (List.Sublist.refl _))))
  · refine ⟨false, hv _ rfl, ?_⟩
    rw [if_neg Bool.false_ne_true]
    rw [← hv false rfl]
    exact k _ _ _ _ hq (R'.less (List.Sublist.cons₂ _ (.cons _ (.cons _ (List.Sublist.refl _)))))
  · exact hq.elim
theorem pd_chain {op op' : CmpOp} {b' : Expr} (ho : OpOk X c (compareOp op) g) (ho' : OpOk X c (compareOp op') g') (ha : PE X a (lift c wa)) (hb : PE X b (lift c wb)) (hc : PE X b' (lift c wc)) (hm : lastMarks [op, op'] [b, b'] = false := by with_unfolding_all rfl) :
    PE X (.Compare a [op, op'] [b, b'] pos) (lift c (wChain g g' wa wb wc)) := by
  obtain ⟨rr, h1, h2⟩ := ho.ex
  obtain ⟨rr', h1', h2'⟩ := ho'.ex
  exact (pe_chain h1 h1' ha hb hc hm).imp fun σ H Q q => chain_end h2 h2' q
theorem ptd_chain {op op' : CmpOp} {b' : Expr} (ho : OpOk X c (compareOp op) g) (ho' : OpOk X c (compareOp op') g') (ha : PE X a (lift c wa)) (hb : PE X b (lift c wb)) (hc : PE X b' (lift c wc)) (hm : lastMarks [op, op'] [b, b'] = false := by with_unfolding_all rfl) :
    PT X (.Compare a [op, op'] [b, b'] pos) (liftT c (wTv (wChain g g' wa wb wc))) := by
  obtain ⟨rr, h1, h2⟩ := ho.ex
  obtain ⟨rr', h1', h2'⟩ := ho'.ex
  exact (pt_chain h1 h1' ha hb hc hm).imp fun σ H Q q => test_end (t := tChain rr rr' (lift c wa) (lift c wb) (lift c wc)) (fun σ H Q z => chain_end h2 h2' z) q
/-! ### and, or, not, if -/
def wAndT (t u : WT) : WT := fun Γ Q => t Γ fun b Γ1 => match b with
  | true => u Γ1 Q
  | false => Q false Γ1
def wOrT (t u : WT) : WT := fun Γ Q => t Γ fun b Γ1 => match b with
  | true => Q true Γ1
  | false => u Γ1 Q
def wNotT (t : WT) : WT := fun Γ Q => t Γ fun b Γ1 => Q (!b) Γ1
def wAndV (wa wb : W) : W := fun Γ Q => wTv wa Γ fun b Γ1 => match b with
  | true => wb Γ1 Q
  | false => Q (.dat (.bl false)) Γ1
def wOrV (wa wb : W) : W := fun Γ Q => wTv wa Γ fun b Γ1 => match b with
  | true => Q (.dat (.bl true)) Γ1
  | false => wb Γ1 Q
def wNotV (wa : W) : W := fun Γ Q => wTv wa Γ fun b Γ1 => Q (.dat (.bl (!b))) Γ1
variable {ta tb : WT} {rest : List Expr}
theorem pwd_and1 (ha : PT X a (liftT c ta)) : PW X (.BoolOp .And [a] pos) (liftT c ta) := pw_and1 ha
theorem pwd_or1 (ha : PT X a (liftT c ta)) : PW X (.BoolOp .Or [a] pos) (liftT c ta) := pw_or1 ha
theorem pwd_and (ha : PT X a (liftT c ta)) (hb : PW X (.BoolOp .And (b :: rest) pos) (liftT c tb)) : PW X (.BoolOp .And (a :: b :: rest) pos) (liftT c (wAndT ta tb)) := by
  refine (pw_and ha hb).imp fun σ H Q ⟨Γ, T, Qd, hR, hw, k⟩ => ⟨Γ, T, _, hR, hw, fun d Γ1 H1 q1 R1 => ?_⟩
  cases d with
  | true =>
    rw [if_pos rfl]
    exact ⟨Γ1, T, _, R1, q1, k⟩
  | false =>
    rw [if_neg Bool.false_ne_true]
    exact k _ _ _ q1 R1
theorem pwd_or (ha : PT X a (liftT c ta)) (hb : PW X (.BoolOp .Or (b :: rest) pos) (liftT c tb)) : PW X (.BoolOp .Or (a :: b :: rest) pos) (liftT c (wOrT ta tb)) := by
  refine (pw_or ha hb).imp fun σ H Q ⟨Γ, T, Qd, hR, hw, k⟩ => ⟨Γ, T, _, hR, hw, fun d Γ1 H1 q1 R1 => ?_⟩
  cases d with
  | true =>
    rw [if_pos rfl]
    exact k _ _ _ q1 R1
  | false =>
    rw [if_neg Bool.false_ne_true]
    exact ⟨Γ1, T, _, R1, q1, k⟩
theorem ptd_not (ha : PT X a (liftT c ta)) : PT X (.UnaryOp .Not a pos) (liftT c (wNotT ta)) :=
  (pt_not ha).imp fun σ H Q ⟨Γ, T, Qd, hR, hw, k⟩ => ⟨Γ, T, _, hR, hw, fun d Γ1 H1 q1 R1 => k _ _ _ q1 R1⟩
theorem pd_one {op} (h : PE X a (lift c wa)) : PE X (.BoolOp op [a] pos) (lift c wa) := pe_one h
theorem Rel.bool {b : Bool} {v : V} (h : Rel c σ H Γ ((.dat (.bl b), v) :: T)) : v = .bl b := by
  obtain ⟨F, E, he, G⟩ := h
  exact G.rep (.dat (.bl b), v) (by simp)
theorem pd_and (ha : PE X a (lift c wa)) (hb : PE X (.BoolOp .And (b :: rest) pos) (lift c wb)) : PE X (.BoolOp .And (a :: b :: rest) pos) (lift c (wAndV wa wb)) := by
  refine (pe_and ha hb).imp fun σ H Q ⟨Γ, T, Qd, hR, hw, k⟩ => ⟨Γ, T, _, hR, hw, fun r Γ1 v H1 q1 R1 => ?_⟩
  split at q1
  · rename_i d
    refine ⟨d, R1.bool, ?_⟩
    cases d with
    | true =>
      rw [if_pos rfl]
      exact ⟨Γ1, T, _, R1.tail, q1, k⟩
    | false =>
      rw [if_neg Bool.false_ne_true, ← R1.bool]
      exact k _ _ _ _ q1 R1
  · exact q1.elim
theorem pd_or (ha : PE X a (lift c wa)) (hb : PE X (.BoolOp .Or (b :: rest) pos) (lift c wb)) : PE X (.BoolOp .Or (a :: b :: rest) pos) (lift c (wOrV wa wb)) := by
  refine (pe_or ha hb).imp fun σ H Q ⟨Γ, T, Qd, hR, hw, k⟩ => ⟨Γ, T, _, hR, hw, fun r Γ1 v H1 q1 R1 => ?_⟩
  split at q1
  · rename_i d
    refine ⟨d, R1.bool, ?_⟩
    cases d with
    | true =>
      rw [if_pos rfl, ← R1.bool]
      exact k _ _ _ _ q1 R1
    | false =>
      rw [if_neg Bool.false_ne_true]
      exact ⟨Γ1, T, _, R1.tail, q1, k⟩
  · exact q1.elim
theorem Rel.const {d : D} {x : V} (hd : ∀ K F, RepD K F d x) (h : Rel c σ H Γ T) : Rel c σ H Γ ((.dat d, x) :: T) := by
  obtain ⟨F, E, he, G⟩ := h
  exact ⟨F, E, he, (G.also (r := .dat d) (hd _ _) rfl).perm (front _ _ _).symm⟩
theorem pd_not (ha : PE X a (lift c wa)) : PE X (.UnaryOp .Not a pos) (lift c (wNotV wa)) := by
  refine (pe_not ha).imp fun σ H Q ⟨Γ, T, Qd, hR, hw, k⟩ => ⟨Γ, T, _, hR, hw, fun r Γ1 v H1 q1 R1 => ?_⟩
  split at q1
  · rename_i d
    exact ⟨d, R1.bool, k _ _ _ _ q1 (R1.tail.const (d := .bl (!d)) fun _ _ => rfl)⟩
  · exact q1.elim
def wIf (t : WT) (wa wb : W) : W := fun Γ Q => t Γ fun d Γ1 => match d with
  | true => wa Γ1 Q
  | false => wb Γ1 Q
theorem pd_if {t : Expr} (ht : PT X t (liftT c ta)) (ha : PE X a (lift c wa)) (hb : PE X b (lift c wb)) : PE X (.IfExp t a b pos) (lift c (wIf ta wa wb)) := by
  refine (pe_ifExp ht ha hb).imp fun σ H Q ⟨Γ, T, Qd, hR, hw, k⟩ => ⟨Γ, T, _, hR, hw, fun d Γ1 H1 q1 R1 => ?_⟩
  cases d with
  | true =>
    rw [if_pos rfl]
    exact ⟨Γ1, T, _, R1, q1, k⟩
  | false =>
    rw [if_neg Bool.false_ne_true]
    exact ⟨Γ1, T, _, R1, q1, k⟩
/-! ### the operators -/
def gAdd : BOp
  | .int i, .int j, k => k (.dat (.int (i + j)))
  | .str x, .str y, k => x.length + y.length ≤ 1000000 ∧ k (.dat (.str (x ++ y)))
  | .tup l, .tup m, k => l.length + m.length ≤ 1000000 ∧ k (.dat (.tup (l ++ m)))
  | .lst l, .lst m, k => l.length + m.length ≤ 1000000 ∧ ∀ a, k (.lst false a (l ++ m))
  | _, _, _ => False
def gSub : BOp
  | .int i, .int j, k => k (.dat (.int (i - j)))
  | _, _, _ => False
def gMul : BOp
  | .int i, .int j, k => ((i.natAbs < 1000000000000000000000000000000000000000000000000000000000000 ∧ j.natAbs < 1000000000000000000000000000000000000000000000000000000000000) ∨ i.natAbs < 9223372036854775808 ∨ j.natAbs < 9223372036854775808) ∧ k (.dat (.int (i * j)))
  | .lst l, .int j, k => 0 ≤ j ∧ j ≤ 1000 ∧ l.length ≤ 1000 ∧ ∀ a, k (.lst false a (List.replicate j.toNat l).flatten)
  | _, _, _ => False
def gDiv : BOp
  | .int i, .int j, k => (j ≠ 0 ∧ j.natAbs < 1000000000000000000000000000000000000000000000000000000000000) ∧ k (.dat (.int (i.fdiv j)))
  | _, _, _ => False
def gMod : BOp
  | .int i, .int j, k => j ≠ 0 ∧ k (.dat (.int (i.fmod j)))
  | _, _, _ => False
def gPow : BOp
  | .int i, .int j, k => (0 ≤ j ∧ j ≤ 1000 ∧ i.natAbs < 9223372036854775808) ∧ k (.dat (.int (i ^ j.toNat)))
  | _, _, _ => False
def gLt : BOp
  | .int i, .int j, k => k (.dat (.bl (decide (i < j))))
  | _, _, _ => False
def gLe : BOp
  | .int i, .int j, k => k (.dat (.bl (decide (i ≤ j))))
  | _, _, _ => False
def gGt : BOp
  | .int i, .int j, k => k (.dat (.bl (decide (j < i))))
  | _, _, _ => False
def gGe : BOp
  | .int i, .int j, k => k (.dat (.bl (decide (j ≤ i))))
  | _, _, _ => False
def gEq : BOp := fun d e k => (sh d 60 = true ∧ sh e 60 = true) ∧ k (.dat (.bl (eqD d e)))
def gNe : BOp := fun d e k => (sh d 60 = true ∧ sh e 60 = true) ∧ k (.dat (.bl (!eqD d e)))
def isN : D → Bool
  | .non => true
  | _ => false
def gIs : BOp
  | d, .non, k => k (.dat (.bl (isN d)))
  | _, _, _ => False
def gIsN : BOp
  | d, .non, k => k (.dat (.bl (!isN d)))
  | _, _, _ => False
/-- two ints -/
theorem opok_int {f : Value → Value → Sem Value} {C : Int → Int → Prop} {m : Int → Int → V} {n : Int → Int → D} (hm : ∀ i j K F, RepD K F (n i j) (m i j)) (h : OpR X f (rI C m)) (hg : ∀ d e k, g d e k → ∃ i j, d = .int i ∧ e = .int j ∧ C i j ∧ k (.dat (n i j))) : OpOk X c f g := by
  refine ⟨⟨_, h, fun F H L x y d e Qd Q G rd re q k => ?_⟩⟩
  obtain ⟨i, j, rfl, rfl, hC, hq⟩ := hg d e Qd q
  exact ⟨i, j, rd, re, hC, k _ _ _ _ hq (G.also (r := .dat (n i j)) (hm i j _ _) rfl)⟩
theorem opok_int0 {f : Value → Value → Sem Value} {m : Int → Int → V} {n : Int → Int → D} (hm : ∀ i j K F, RepD K F (n i j) (m i j)) (h : OpR X f (rI0 m)) (hg : ∀ d e k, g d e k → ∃ i j, d = .int i ∧ e = .int j ∧ k (.dat (n i j))) : OpOk X c f g := by
  refine ⟨⟨_, h, fun F H L x y d e Qd Q G rd re q k => ?_⟩⟩
  obtain ⟨i, j, rfl, rfl, hq⟩ := hg d e Qd q
  exact ⟨i, j, rd, re, k _ _ _ _ hq (G.also (r := .dat (n i j)) (hm i j _ _) rfl)⟩
theorem ok_sub : OpOk X c (binaryOp .Sub) gSub := opok_int0 (n := fun i j => .int (i - j)) (fun _ _ _ _ => rfl) op_sub fun d e k q => by
  unfold gSub at q
  split at q
  · exact ⟨_, _, rfl, rfl, q⟩
  · exact q.elim
theorem ok_lt : OpOk X c (compareOp .Lt) gLt := opok_int0 (n := fun i j => .bl (decide (i < j))) (fun _ _ _ _ => rfl) op_lt fun d e k q => by
  unfold gLt at q
  split at q
  · exact ⟨_, _, rfl, rfl, q⟩
  · exact q.elim
theorem ok_le : OpOk X c (compareOp .LtE) gLe := opok_int0 (n := fun i j => .bl (decide (i ≤ j))) (fun _ _ _ _ => rfl) op_le fun d e k q => by
  unfold gLe at q
  split at q
  · exact ⟨_, _, rfl, rfl, q⟩
  · exact q.elim
theorem ok_gt : OpOk X c (compareOp .Gt) gGt := opok_int0 (n := fun i j => .bl (decide (j < i))) (fun _ _ _ _ => rfl) op_gt fun d e k q => by
  unfold gGt at q
  split at q
  · exact ⟨_, _, rfl, rfl, q⟩
  · exact q.elim
theorem ok_ge : OpOk X c (compareOp .GtE) gGe := opok_int0 (n := fun i j => .bl (decide (j ≤ i))) (fun _ _ _ _ => rfl) op_ge fun d e k q => by
  unfold gGe at q
  split at q
  · exact ⟨_, _, rfl, rfl, q⟩
  · exact q.elim
theorem ok_mod : OpOk X c (binaryOp .Mod) gMod := opok_int (n := fun i j => .int (i.fmod j)) (fun _ _ _ _ => rfl) op_modN fun d e k q => by
  unfold gMod at q
  split at q
  · exact ⟨_, _, rfl, rfl, q⟩
  · exact q.elim
theorem ok_pow : OpOk X c (binaryOp .Pow) gPow := opok_int (n := fun i j => .int (i ^ j.toNat)) (fun _ _ _ _ => rfl) op_pow fun d e k q => by
  unfold gPow at q
  split at q
  · exact ⟨_, _, rfl, rfl, ⟨q.1.1, by have := q.1.2.1; omega, by have := q.1.2.2; omega⟩, q.2⟩
  · exact q.elim
theorem log2_of {n k : Nat} (h0 : 0 < k) (h : n < 2 ^ k) : n.log2 < k := by
  by_cases hn : n = 0
  · subst hn
    simpa using h0
  · exact (Nat.log2_lt hn).mpr h
theorem op_fdivA : OpR X (binaryOp .FloorDiv) (rI (fun _ j => j ≠ 0 ∧ j.natAbs < 1000000000000000000000000000000000000000000000000000000000000) fun i j => .int (i.fdiv j)) := opI fun i j _ _ _ _ _ hc q =>
  floordiv_int hc.1 q (.inl (PyProof.noPylong_of_log2 (Nat.lt_trans (log2_of (k := 200) (by decide) (Nat.lt_trans hc.2 (by decide))) (by decide))))
theorem ok_div : OpOk X c (binaryOp .FloorDiv) gDiv := opok_int (n := fun i j => .int (i.fdiv j)) (fun _ _ _ _ => rfl) op_fdivA fun d e k q => by
  unfold gDiv at q
  split at q
  · exact ⟨_, _, rfl, rfl, q⟩
  · exact q.elim
end
end Dl
/-! ## further operators, subscripts, built-ins, methods -/
namespace Dl
open PySem PySem.Spec PyProof.Rows
open L2
section
variable {X : Cx} {c : Cn} {e a b : Expr} {σ : L2.St} {H : Hp} {Γ : Gm} {T : Ls} {wa wb wc : W} {pos : Pos} {g g' : BOp}
theorem rep_is {d : D} {x : V} {F H : Hp} (h : RdD c.K F H d x) : isN d = decide (x = .non) := by
  cases d with
  | non => cases (show x = .non from h); rfl
  | bl b => cases (show x = .bl b from h); rfl
  | int b => cases (show x = .int b from h); rfl
  | str b => cases (show x = .str b from h); rfl
  | tup l => obtain ⟨a, xs, rfl, _⟩ := h; rfl
  | lst l => obtain ⟨a, xs, rfl, _⟩ := h; rfl
  | dk ks l => obtain ⟨a, xs, rfl, _⟩ := h; rfl
  | dt ks l => obtain ⟨a, xs, rfl, _⟩ := h; rfl
  | scr l => obtain ⟨a, rfl, _⟩ := h; rfl
theorem ok_is : OpOk X c (compareOp .Is) gIs := ⟨⟨_, op_isN, fun F H L x y d e Qd Q G rd re q k => by
  cases e with
  | non =>
    refine ⟨re, ?_⟩
    rw [← rep_is rd]
    exact k _ _ _ _ q (G.also (r := .dat (.bl (isN d))) rfl rfl)
  | _ => exact False.elim q⟩⟩
theorem ok_isn : OpOk X c (compareOp .IsNot) gIsN := ⟨⟨_, op_notN, fun F H L x y d e Qd Q G rd re q k => by
  cases e with
  | non =>
    refine ⟨re, ?_⟩
    rw [← rep_is rd]
    exact k _ _ _ _ q (G.also (r := .dat (.bl (!isN d))) rfl rfl)
  | _ => exact False.elim q⟩⟩
theorem ok_eq (hu : X.A.units + 64 < cLine) (hK : X.K = c.K := by rfl) : OpOk X c (compareOp .Eq) gEq := ⟨⟨_, op_eqD hu, fun F H L x y d e Qd Q G rd re ⟨⟨q1, q2⟩, q⟩ k => by
  rw [hK]
  exact ⟨_, _, dp_read G.sub q1 rd, dp_read G.sub q2 re, sh_shaped q1, sh_shaped q2, k _ _ _ _ q (G.also (r := .dat (.bl (eqD d e))) rfl rfl)⟩⟩⟩
theorem ok_ne (hu : X.A.units + 64 < cLine) (hK : X.K = c.K := by rfl) : OpOk X c (compareOp .NotEq) gNe := ⟨⟨_, op_neD hu, fun F H L x y d e Qd Q G rd re ⟨⟨q1, q2⟩, q⟩ k => by
  rw [hK]
  exact ⟨_, _, dp_read G.sub q1 rd, dp_read G.sub q2 re, sh_shaped q1, sh_shaped q2, k _ _ _ _ q (G.also (r := .dat (.bl (!eqD d e))) rfl rfl)⟩⟩⟩
theorem ok_add (hK : X.K = c.K := by rfl) : OpOk X c (binaryOp .Add) gAdd := ⟨⟨_, op_add.or (op_add_str.or (op_catA.or op_cat)), fun F H L x y d e Qd Q G rd re q k => by
  unfold gAdd at q
  split at q
  · rename_i i j
    exact .inl ⟨i, j, rd, re, k _ _ _ _ q (G.also (r := .dat (.int (i + j))) rfl rfl)⟩
  · rename_i i j
    exact .inr (.inl ⟨i, j, rd, re, lineM q.1, k _ _ _ _ q.2 (G.also (r := .dat (.str (i ++ j))) rfl rfl)⟩)
  · rename_i l m
    obtain ⟨a, xs, rfl, f, r1⟩ := rd
    obtain ⟨b, ys, rfl, f', r2⟩ := re
    have e1 := r1.length
    have e2 := r2.length
    refine .inr (.inr (.inl ⟨a, b, xs, ys, rfl, rfl, SqT.of (G.sub _ _ f), SqT.of (G.sub _ _ f'), by rw [e1, e2]; exact lineM q.1, fun z => ?_, fun z z' => ?_, fun z z' p hp => ?_⟩))
    · subst z
      have : l = [] := List.length_eq_zero_iff.mp e1.symm
      subst this
      exact k _ _ _ _ q.2 (G.also (r := .dat (.tup m)) ⟨b, ys, rfl, f', r2⟩ rfl)
    · subst z'
      have : m = [] := List.length_eq_zero_iff.mp e2.symm
      subst this
      rw [List.append_nil] at q
      exact k _ _ _ _ q.2 (G.also (r := .dat (.tup l)) ⟨a, xs, rfl, f, r1⟩ rfl)
    · exact k _ _ _ _ q.2 (G.newTup hp (r1.append r2))
  · rename_i l m
    obtain ⟨a, xs, rfl, f, r1⟩ := rd
    obtain ⟨b, ys, rfl, f', r2⟩ := re
    refine .inr (.inr (.inr ⟨a, b, xs, ys, rfl, rfl, f, f', by rw [r1.length, r2.length]; exact lineM q.1, fun p hp => ?_⟩))
    exact k _ _ _ _ (q.2 p) (G.newOwn hp (r1.append r2))
  · exact q.elim⟩⟩
theorem repL_rep {K : PySem.W.Frag} {F : Hp} {l : List D} {xs : List V} (h : RepL K F l xs) : ∀ n : Nat, RepL K F (List.replicate n l).flatten (List.replicate n xs).flatten
  | 0 => rfl
  | n + 1 => by
    rw [List.replicate_succ, List.replicate_succ, List.flatten_cons, List.flatten_cons]
    exact h.append (repL_rep h n)
theorem bits_of {i : Int} (h : i.natAbs < 1000000000000000000000000000000000000000000000000000000000000) : i.natAbs.log2 < 200 := log2_of (by decide) (Nat.lt_trans h (by decide))
theorem op_mulA : OpR X (binaryOp .Mult) (rI (fun i j => (i.natAbs < 1000000000000000000000000000000000000000000000000000000000000 ∧ j.natAbs < 1000000000000000000000000000000000000000000000000000000000000) ∨ i.natAbs < 9223372036854775808 ∨ j.natAbs < 9223372036854775808) fun i j => .int (i * j)) := opI fun i j _ _ _ _ _ hc q => by
  rcases hc with ⟨h1, h2⟩ | h | h
  · have a1 := bits_of h1
    have a2 := bits_of h2
    exact mul_int q (CMulW.ok (show i.natAbs.log2 + j.natAbs.log2 < 1000000 by omega))
  · exact mul_int q (CMul.ok (.inl ⟨by omega, by omega⟩))
  · exact mul_int q (CMul.ok (.inr ⟨by omega, by omega⟩))
theorem ok_mul : OpOk X c (binaryOp .Mult) gMul := ⟨⟨_, op_mulA.or op_rep, fun F H L x y d e Qd Q G rd re q k => by
  unfold gMul at q
  split at q
  · rename_i i j
    exact .inl ⟨i, j, rd, re, q.1, k _ _ _ _ q.2 (G.also (r := .dat (.int (i * j))) rfl rfl)⟩
  · rename_i l j
    obtain ⟨a, xs, rfl, f, r1⟩ := rd
    obtain ⟨q1, q2, q3, q4⟩ := q
    refine .inr ⟨a, j, xs, rfl, re, f, by omega, by omega, ?_, fun p hp => k _ _ _ _ (q4 p) (G.newOwn hp (repL_rep r1 _))⟩
    have e1 := r1.length
    have : xs.length * j.toNat ≤ 1000 * 1000 := Nat.mul_le_mul (by omega) (by omega)
    exact lineM (by omega)
  · exact q.elim⟩⟩
/-! ### unary minus -/
def wNeg (wa : W) : W := fun Γ Q => wa Γ fun r Γ1 => match r with
  | .dat (.int i) => Q (.dat (.int (-i))) Γ1
  | _ => False
theorem Rel.int {i : Int} {v : V} (h : Rel c σ H Γ ((.dat (.int i), v) :: T)) : v = .int i := by
  obtain ⟨F, E, he, G⟩ := h
  exact G.rep (.dat (.int i), v) (by simp)
theorem pd_neg (ha : PE X a (lift c wa)) : PE X (.UnaryOp .USub a pos) (lift c (wNeg wa)) := by
  refine (pe_un un_neg ha).imp fun σ H Q ⟨Γ, T, Qd, hR, hw, k⟩ => ⟨Γ, T, _, hR, hw, fun r Γ1 v H1 q1 R1 => ?_⟩
  split at q1
  · rename_i i
    exact ⟨i, R1.int, k _ _ _ _ q1 (R1.tail.const (d := .int (-i)) fun _ _ => rfl)⟩
  · exact q1.elim
/-! ### subscripts -/
def ixD {α : Type} (l : List α) (i : Int) : Option α := if 0 ≤ i then l[i.toNat]? else if 0 ≤ i + l.length then l[(i + l.length).toNat]? else none
theorem ixD_at {α : Type} {l : List α} {i : Int} {v : α} (h : ixD l i = some v) : atI l i = some v := by
  unfold ixD at h
  unfold atI ixN
  by_cases h0 : 0 ≤ i
  · rw [if_pos h0] at h ⊢
    obtain ⟨z, _⟩ := List.getElem?_eq_some_iff.mp h
    rw [if_pos (by omega)]
    exact h
  · rw [if_neg h0] at h ⊢
    by_cases h1 : 0 ≤ i + l.length
    · rw [if_pos h1] at h
      rw [if_pos (by omega)]
      exact h
    · rw [if_neg h1] at h
      cases h
theorem repL_ix {K : PySem.W.Frag} {F : Hp} {l : List D} {xs : List V} {i : Int} {d : D} (r : RepL K F l xs) (h : ixD l i = some d) : ∃ x, atI xs i = some x ∧ RepD K F d x := by
  have hl := r.length
  have z : ∀ j, l[j]? = some d → ∃ x, xs[j]? = some x ∧ RepD K F d x := fun j hj => r.get hj
  unfold ixD at h
  by_cases h0 : 0 ≤ i
  · rw [if_pos h0] at h
    obtain ⟨x, hx, q⟩ := z _ h
    exact ⟨x, ixD_at (by unfold ixD; rw [if_pos h0]; exact hx), q⟩
  · rw [if_neg h0] at h
    by_cases h1 : 0 ≤ i + l.length
    · rw [if_pos h1] at h
      obtain ⟨x, hx, q⟩ := z _ h
      exact ⟨x, ixD_at (by unfold ixD; rw [if_neg h0, hl, if_pos h1]; exact hx), q⟩
    · rw [if_neg h1] at h
      cases h
def gIx : BOp
  | .tup l, .int i, k => match ixD l i with
    | some d => k (.dat d)
    | none => False
  | .lst l, .int i, k => match ixD l i with
    | some d => k (.dat d)
    | none => False
  | .str s, .int i, k => s.length ≤ 1000000 ∧ match ixD s.cps.toList i with
    | some ch => k (.dat (.str ⟨#[ch]⟩))
    | none => False
  | _, _, _ => False
theorem pd_ix (ha : PE X a (lift c wa)) (hb : PE X b (lift c wb)) (hs : PlainIx b := by exact fun _ _ => rfl) (hK : X.K = c.K := by rfl) : PE X (.Subscript a b pos) (lift c (wBin gIx wa wb)) := by
  refine (pe_ix ix_seq ha hb hs).imp fun σ H Q ⟨Γ, T, Qd, hR, hw, k⟩ => ?_
  refine ⟨Γ, T, _, hR, hw, fun r1 Γ1 x H1 q1 R1 => ⟨Γ1, _, _, R1, q1, fun r2 Γ2 y H2 q2 R2 => ?_⟩⟩
  refine bin_end (g := gIx) (fun F H L x y d e Qd Q G rd re q k => ?_) R2 q2 fun r v H' hq R' => k _ _ _ _ hq (R'.less ((List.Sublist.cons _ (List.Sublist.cons _ (List.Sublist.refl _))).cons₂ _))
  unfold gIx at q
  split at q
  · rename_i l i
    split at q
    · rename_i d hd
      obtain ⟨a, xs, rfl, f, r1⟩ := rd
      obtain ⟨z, hz, rz⟩ := repL_ix r1 hd
      exact .inr (.inl ⟨a, xs, i, z, rfl, re, SqT.of (G.sub _ _ f), hz, k _ _ _ _ q (G.also (r := .dat d) rz rfl)⟩)
    · exact q.elim
  · rename_i l i
    split at q
    · rename_i d hd
      obtain ⟨a, xs, rfl, f, r1⟩ := rd
      obtain ⟨z, hz, rz⟩ := repL_ix r1 hd
      exact .inl ⟨a, xs, i, z, rfl, re, SqL.of f, hz, k _ _ _ _ q (G.also (r := .dat d) rz rfl)⟩
    · exact q.elim
  · rename_i s i
    obtain ⟨q0, q⟩ := q
    split at q
    · rename_i d hd
      exact .inr (.inr ⟨s, i, d, rd, re, lineM q0, ixD_at hd, k _ _ _ _ q (G.also (r := .dat (.str ⟨#[d]⟩)) rfl rfl)⟩)
    · exact q.elim
  · exact q.elim
/-! ### slices -/
abbrev WO := Gm → (Option Int → Gm → Prop) → Prop
def liftO (c : Cn) (w : WO) : TO := fun σ H Q => ∃ Γ T Qd, Rel c σ H Γ T ∧ w Γ Qd ∧ ∀ r Γ' H', Qd r Γ' → Rel c σ H' Γ' T → Q r H'
def woN : WO := fun Γ Q => Q none Γ
def woS (wa : W) : WO := fun Γ Q => wa Γ fun r Γ1 => match r with
  | .dat (.int i) => Q (some i) Γ1
  | _ => False
theorem pod_none : PO X none (liftO c woN) := ⟨fun pins s σ H Q I ⟨Γ, T, Qd, hR, hw, k⟩ => po_none.run pins s σ H Q I (k _ _ _ hw hR)⟩
theorem pod_some (ha : PE X a (lift c wa)) : PO X (some a) (liftO c (woS wa)) := ⟨fun pins s σ H Q I ⟨Γ, T, Qd, hR, hw, k⟩ => (po_some ha).run pins s σ H Q I (by
  refine ⟨Γ, T, _, hR, hw, fun r Γ1 v H1 q1 R1 => ?_⟩
  split at q1
  · rename_i i
    exact ⟨i, R1.int, k _ _ _ q1 R1.tail⟩
  · exact q1.elim)⟩
def cutD {α : Type} (l : List α) (lo hi : Option Int) : List α := (l.drop (HT.sIx l.length 0 lo)).take (HT.sIx l.length l.length hi - HT.sIx l.length 0 lo)
theorem repL_cut {K : PySem.W.Frag} {F : Hp} {l : List D} {xs : List V} (r : RepL K F l xs) (lo hi : Option Int) : RepL K F (cutD l lo hi) (cutV xs lo hi) := by
  unfold cutD cutV
  rw [r.length]
  exact (r.drop _).take _
def gSl (d : D) (lo hi : Option Int) (k : R → Prop) : Prop := match d with
  | .tup l => k (.dat (.tup (cutD l lo hi)))
  | .lst l => ∀ a, k (.lst false a (cutD l lo hi))
  | .scr l => ∀ a, k (.lst false a ((cutD l lo hi).map D.int))
  | _ => False
def wSl (wa : W) (lo hi : WO) : W := fun Γ Q => wa Γ fun r Γ1 => lo Γ1 fun i Γ2 => hi Γ2 fun j Γ3 => peek Γ3 r fun d => gSl d i j fun r => Q r Γ3
theorem cutD_whole {α : Type} {l : List α} {lo hi : Option Int} (h : HT.sIx l.length 0 lo = 0 ∧ HT.sIx l.length l.length hi = l.length) : cutD l lo hi = l := by
  unfold cutD
  rw [h.1, h.2]
  simp
theorem pd_slice {lo hi : Option Expr} {wl wh : WO} {p2 : Pos} (ha : PE X a (lift c wa)) (hl : PO X lo (liftO c wl)) (hh : PO X hi (liftO c wh)) (hK : X.K = c.K := by rfl) : PE X (.Subscript a (.Slice lo hi none p2) pos) (lift c (wSl wa wl wh)) := by
  refine (pe_slice (sl_tupA.or sl_list) ha hl hh).imp fun σ H Q ⟨Γ, T, Qd, hR, hw, k⟩ => ?_
  refine ⟨Γ, T, _, hR, hw, fun r1 Γ1 x H1 q1 R1 => ⟨Γ1, _, _, R1, q1, fun i Γ2 H2 q2 R2 => ⟨Γ2, _, _, R2, q2, fun j Γ3 H3 q3 R3 => ?_⟩⟩⟩
  obtain ⟨F, E, he, G⟩ := R3
  obtain ⟨d, q, rd⟩ := G.peek (r := r1) (v := x) he (fun z hz => List.mem_append_left _ hz) (by simp) q3
  have fin : ∀ {r : R} {v : V} {F' H' : Hp}, Qd r Γ3 → Good c F' H' ((r, v) :: (E ++ (r1, x) :: T)) → Q v H' := fun {r v F' H'} z G' => k r Γ3 v H' z ⟨F', E, he, (G'.perm (front _ _ _).symm).less ((List.Sublist.refl E).append (.cons₂ _ (.cons _ (List.Sublist.refl _))))⟩
  cases d with
  | tup l =>
    obtain ⟨a, xs, rfl, f, r⟩ := rd
    refine .inl ⟨a, xs, rfl, SqT.of (G.sub _ _ f), fun z => ?_, fun z p hp => ?_⟩
    · refine fin (r := .dat (.tup (cutD l i j))) q (G.also ?_ rfl)
      rw [cutD_whole (by rw [← r.length]; exact z)]
      exact ⟨a, xs, rfl, f, r⟩
    · exact fin q (G.newTup hp (repL_cut r i j))
  | lst l =>
    obtain ⟨a, xs, rfl, f, r⟩ := rd
    exact .inr ⟨a, xs, rfl, SqL.of f, fun p hp => fin (q p) (G.newOwn hp (repL_cut r i j))⟩
  | scr l =>
    obtain ⟨a, rfl, f⟩ := rd
    refine .inr ⟨a, l.map V.int, rfl, G.sub.seq (by rw [hK]; exact f), fun p hp => fin (q p) (G.newOwn hp ?_)⟩
    have e : cutV (l.map V.int) i j = (cutD l i j).map V.int := by
      unfold cutV cutD
      rw [List.length_map, ← List.map_drop, ← List.map_take]
    rw [e]
    exact repL_ints _
  | _ => exact (show False from q).elim
/-! ### built-ins by name -/
def RdL (K : PySem.W.Frag) (F H : Hp) : List D → List V → Prop
  | [], xs => xs = []
  | d :: l, xs => ∃ x r, xs = x :: r ∧ RdD K F H d x ∧ RdL K F H l r
def peeks (Γ : Gm) : List R → (List D → Prop) → Prop
  | [], k => k []
  | r :: rs, k => peek Γ r fun d => peeks Γ rs fun ds => k (d :: ds)
theorem Good.peeks {F : Hp} {E L : Ls} (G : Good c F H L) (he : Ents Γ σ E) (hE : ∀ x ∈ E, x ∈ L) : ∀ {rs : List R} {vs : List V} {k : List D → Prop}, rs.length = vs.length → (∀ x ∈ rs.zip vs, x ∈ L) → peeks Γ rs k → ∃ ds, k ds ∧ RdL c.K F H ds vs
  | [], [], k, _, _, q => ⟨[], q, rfl⟩
  | [], _ :: _, _, e, _, _ => by simp at e
  | _ :: _, [], _, e, _, _ => by simp at e
  | r :: rs, v :: vs, k, e, hm, q => by
    obtain ⟨d, q, rd⟩ := G.peek (r := r) (v := v) he hE (hm _ (by simp)) q
    obtain ⟨ds, q, rds⟩ := Good.peeks G he hE (rs := rs) (vs := vs) (by simpa using e) (fun x hx => hm x (by simp only [List.zip_cons_cons, List.mem_cons]; exact .inr hx)) q
    exact ⟨d :: ds, q, v, vs, rfl, rd, rds⟩
abbrev COp := List D → (R → Prop) → Prop
structure CbOk (X : Cx) (c : Cn) (f : Value) (g : COp) : Prop where
  ex : ∃ rr, CallR X f rr ∧ ∀ F H L vs ds Qd Q, Good c F H L → RdL c.K F H ds vs → g ds Qd → (∀ r v H' F', Qd r → Good c F' H' ((r, v) :: L) → Q v H') → rr vs H Q
def wCB (g : COp) (t : WA) : W := fun Γ Q => t Γ fun rs Γ1 => peeks Γ1 rs fun ds => g ds fun r => Q r Γ1
theorem zip_left (A B C : Ls) : (A ++ (B ++ C)).Perm (B ++ (A ++ C)) := by
  rw [← List.append_assoc, ← List.append_assoc]
  exact List.Perm.append_right _ List.perm_append_comm
theorem cb_end {rr : List V → Hp → VK → Prop} {g : COp} {t : WA} {Q : VK}
    (h2 : ∀ F H L vs ds Qd Q, Good c F H L → RdL c.K F H ds vs → g ds Qd → (∀ r v H' F', Qd r → Good c F' H' ((r, v) :: L) → Q v H') → rr vs H Q) (q : lift c (wCB g t) σ H Q) : tCB rr (liftA c t) σ H Q := by
  obtain ⟨Γ, T, Qd, hR, hw, k⟩ := q
  refine ⟨Γ, T, _, hR, hw, fun rs Γ1 vs H1 q1 hl R1 => ?_⟩
  obtain ⟨F, E, he, G⟩ := R1
  obtain ⟨ds, q, rd⟩ := G.peeks he (fun z hz => List.mem_append_left _ hz) hl (fun x hx => List.mem_append_right _ (List.mem_append_left _ hx)) q1
  refine h2 F H1 _ vs ds (fun r => Qd r Γ1) Q G rd q fun r v H' F' hq G' => k r Γ1 v H' hq ⟨F', E, he, (G'.perm (front _ _ _).symm).less ?_⟩
  exact (List.Sublist.refl E).append (.cons₂ _ (List.sublist_append_right _ _))
theorem pd_callB {x : Str} {p : Pos} {es : List Expr} {id : String} {g : COp} {t : WA} (hc : CbOk X c (.builtin id) g) (hm : X.mg x = none) (hv : bootBuiltins x = some (.builtin id)) (ha : PA X (e :: es) (liftA c t)) (hg : Gl X x := by rfl) (hn : x ≠ "__name__" := by decide) (hdb : (x == ("__debug__" : Str)) = false := by decide)
    (he : starEach (e :: es) X.env = (false, eval e X.env) :: starEach es X.env := by rfl) (hpl : (backTo pos (starEach es X.env)).any (·.1) = false := by rfl) : PE X (.Call (.Name x p) (e :: es) [] pos) (lift c (wCB g t)) := by
  obtain ⟨rr, h1, h2⟩ := hc.ex
  exact (pe_callB h1 hg hm hv ha hn hdb he hpl).imp fun σ H Q q => cb_end h2 q
theorem pd_callT {x : Str} {p : Pos} {es : List Expr} {id : String} {g : COp} {t : WA} (hc : CbOk X c (.type id) g) (hm : X.mg x = none) (hv : bootBuiltins x = some (.type id)) (ha : PA X (e :: es) (liftA c t)) (hg : Gl X x := by rfl) (hn : x ≠ "__name__" := by decide) (hdb : (x == ("__debug__" : Str)) = false := by decide)
    (he : starEach (e :: es) X.env = (false, eval e X.env) :: starEach es X.env := by rfl) (hpl : (backTo pos (starEach es X.env)).any (·.1) = false := by rfl) : PE X (.Call (.Name x p) (e :: es) [] pos) (lift c (wCB g t)) := by
  obtain ⟨rr, h1, h2⟩ := hc.ex
  exact (pe_callTy h1 hg hm hv ha hn hdb he hpl).imp fun σ H Q q => cb_end h2 q
theorem rdl1 {K : PySem.W.Frag} {F H : Hp} {d : D} {vs : List V} (h : RdL K F H [d] vs) : ∃ x, vs = [x] ∧ RdD K F H d x := by
  obtain ⟨x, r, rfl, a, b⟩ := h
  cases (show r = [] from b)
  exact ⟨x, rfl, a⟩
theorem rdl2 {K : PySem.W.Frag} {F H : Hp} {d e : D} {vs : List V} (h : RdL K F H [d, e] vs) : ∃ x y, vs = [x, y] ∧ RdD K F H d x ∧ RdD K F H e y := by
  obtain ⟨x, r, rfl, a, b⟩ := h
  obtain ⟨y, e, z⟩ := rdl1 b
  subst e
  exact ⟨x, y, rfl, a, z⟩
def gLen : COp
  | [.tup l], k => k (.dat (.int l.length))
  | [.lst l], k => k (.dat (.int l.length))
  | [.str s], k => s.length ≤ 1000000 ∧ k (.dat (.int s.length))
  | [.dk ks _], k => k (.dat (.int ks.length))
  | [.dt ks _], k => k (.dat (.int ks.length))
  | _, _ => False
end
end Dl
/-! ## built-ins, methods of lists and dicts -/
namespace Dl
open PySem PySem.Spec PyProof.Rows
open L2
section
variable {X : Cx} {c : Cn} {e a b : Expr} {σ : L2.St} {H : Hp} {Γ : Gm} {T : Ls} {wa wb wc : W} {pos : Pos} {g g' : BOp}
theorem call_lenR : CallR X (.builtin "len") (fun xs H Q => ∃ a, xs = [V.ref a] ∧ ((∃ kvs, Rd H a (.dK kvs) ∧ Q (.int (kvs.length : Nat)) H) ∨ ∃ kvs, Rd H a (.dT kvs) ∧ Q (.int (kvs.length : Nat)) H)) := by
  intro pins s σ H xs us Q I r h
  obtain ⟨a, rfl, h⟩ := h
  obtain ⟨u, rfl, rx⟩ := vals1 r
  cases rx
  have hl := line63
  rcases h with ⟨kvs, e, q⟩ | ⟨kvs, e, q⟩
  · exact d_len I e fun t s' I' => ⟨.int _, H, I', ⟨_, rfl⟩, q⟩
  · obtain ⟨z, hd, ys, rel, dd⟩ := dt_rd I.hok e
    have hlen : kvs.length = ys.length := Paired.length rel
    refine PySem.call_len_dictH hd dd (by omega) ⟨.int _, H, (I.tok _).tok _, ⟨_, by rw [hlen]⟩, q⟩
theorem ok_len : CbOk X c (.builtin "len") gLen := ⟨⟨_, call_len.or call_lenR, fun F H L vs ds Qd Q G rd q k => by
  unfold gLen at q
  have fin : ∀ n : Nat, Qd (.dat (.int n)) → Q (.int n) H := fun n z => k _ _ _ _ z (G.also (r := .dat (.int n)) rfl rfl)
  split at q
  · obtain ⟨x, rfl, a, xs, rfl, f, r⟩ := rdl1 rd
    exact .inl ⟨.ref a, xs.length, rfl, .inr ⟨xs, SqT.of (G.sub _ _ f), rfl⟩, fin _ (by rw [r.length]; exact q)⟩
  · obtain ⟨x, rfl, a, xs, rfl, f, r⟩ := rdl1 rd
    exact .inl ⟨.ref a, xs.length, rfl, .inl ⟨xs, SqL.of f, rfl⟩, fin _ (by rw [r.length]; exact q)⟩
  · rename_i s
    obtain ⟨x, rfl, r⟩ := rdl1 rd
    cases (show x = .str s from r)
    exact .inl ⟨.str s, s.length, rfl, ⟨lineM q.1, rfl⟩, fin _ q.2⟩
  · obtain ⟨x, rfl, a, kvs, rfl, f, g, r⟩ := rdl1 rd
    exact .inr ⟨a, rfl, .inl ⟨kvs, f, fin _ (by rw [← g, List.length_map] at q; exact q)⟩⟩
  · obtain ⟨x, rfl, a, kvs, rfl, f, g, r⟩ := rdl1 rd
    exact .inr ⟨a, rfl, .inr ⟨kvs, f, fin _ (by rw [← g, List.length_map] at q; exact q)⟩⟩
  · exact q.elim⟩⟩
def gAbs : COp
  | [.int i], k => k (.dat (.int (if i < 0 then -i else i)))
  | _, _ => False
theorem ok_abs : CbOk X c (.builtin "abs") gAbs := ⟨⟨_, call_abs, fun F H L vs ds Qd Q G rd q k => by
  unfold gAbs at q
  split at q
  · rename_i i
    obtain ⟨x, rfl, r⟩ := rdl1 rd
    exact ⟨i, by rw [show x = .int i from r], k _ _ _ _ q (G.also (r := .dat (.int _)) rfl rfl)⟩
  · exact q.elim⟩⟩
def gInt : COp
  | [.int i], k => k (.dat (.int i))
  | [.bl b], k => k (.dat (.int (if b then 1 else 0)))
  | _, _ => False
theorem ok_int : CbOk X c (.type "int") gInt := ⟨⟨_, call_int1, fun F H L vs ds Qd Q G rd q k => by
  unfold gInt at q
  split at q
  · rename_i i
    obtain ⟨x, rfl, r⟩ := rdl1 rd
    exact .inl ⟨i, by rw [show x = .int i from r], k _ _ _ _ q (G.also (r := .dat (.int _)) rfl rfl)⟩
  · rename_i i
    obtain ⟨x, rfl, r⟩ := rdl1 rd
    exact .inr ⟨i, by rw [show x = .bl i from r], k _ _ _ _ q (G.also (r := .dat (.int _)) rfl rfl)⟩
  · exact q.elim⟩⟩
def bls : List D → Option (List Bool)
  | [] => some []
  | .bl b :: l => (bls l).map (b :: ·)
  | _ :: _ => none
def dints : List D → Option (List Int)
  | [] => some []
  | .int b :: l => (dints l).map (b :: ·)
  | _ :: _ => none
theorem bls_some : ∀ {l : List D} {bs : List Bool}, bls l = some bs → l = bs.map D.bl
  | [], bs, h => by cases h; rfl
  | .bl b :: l, bs, h => by
    cases q : bls l with
    | none => simp [bls, q] at h
    | some r =>
      simp [bls, q] at h
      subst h
      rw [bls_some q]
      rfl
  | .non :: l, bs, h => by cases h
  | .int _ :: l, bs, h => by cases h
  | .str _ :: l, bs, h => by cases h
  | .tup _ :: l, bs, h => by cases h
  | .lst _ :: l, bs, h => by cases h
  | .dk _ _ :: l, bs, h => by cases h
  | .dt _ _ :: l, bs, h => by cases h
  | .scr _ :: l, bs, h => by cases h
theorem dints_some : ∀ {l : List D} {bs : List Int}, dints l = some bs → l = bs.map D.int
  | [], bs, h => by cases h; rfl
  | .int b :: l, bs, h => by
    cases q : dints l with
    | none => simp [dints, q] at h
    | some r =>
      simp [dints, q] at h
      subst h
      rw [dints_some q]
      rfl
  | .non :: l, bs, h => by cases h
  | .bl _ :: l, bs, h => by cases h
  | .str _ :: l, bs, h => by cases h
  | .tup _ :: l, bs, h => by cases h
  | .lst _ :: l, bs, h => by cases h
  | .dk _ _ :: l, bs, h => by cases h
  | .dt _ _ :: l, bs, h => by cases h
  | .scr _ :: l, bs, h => by cases h
theorem bls_map {α : Type} (f : α → Bool) : ∀ l : List α, bls (l.map fun x => D.bl (f x)) = some (l.map f)
  | [] => rfl
  | x :: l => by simp [bls, bls_map f l]
theorem dints_map {α : Type} (f : α → Int) : ∀ l : List α, dints (l.map fun x => D.int (f x)) = some (l.map f)
  | [] => rfl
  | x :: l => by simp [dints, dints_map f l]
theorem dints_id (l : List Int) : dints (l.map D.int) = some l := by
  have h := dints_map (fun x => x) l
  simpa using h
theorem bls_id (l : List Bool) : bls (l.map D.bl) = some l := by
  have h := bls_map (fun x => x) l
  simpa using h
def gAll : COp
  | [.lst l], k => match bls l with
    | some bs => k (.dat (.bl (bs.all id)))
    | none => False
  | _, _ => False
def gAny : COp
  | [.lst l], k => match bls l with
    | some bs => k (.dat (.bl (bs.any id)))
    | none => False
  | _, _ => False
theorem ok_all (hc : X.calm = true := by rfl) : CbOk X c (.builtin "all") gAll := ⟨⟨_, cr_all hc, fun F H L vs ds Qd Q G rd q k => by
  unfold gAll at q
  split at q
  · split at q
    · rename_i bs hb
      obtain ⟨x, rfl, a, xs, rfl, f, r⟩ := rdl1 rd
      rw [bls_some hb] at r
      rw [repL_bls' r] at f
      exact ⟨a, bs, rfl, SqL.of f, k _ _ _ _ q (G.also (r := .dat (.bl _)) rfl rfl)⟩
    · exact q.elim
  · exact q.elim⟩⟩
theorem ok_any (hc : X.calm = true := by rfl) : CbOk X c (.builtin "any") gAny := ⟨⟨_, cr_any hc, fun F H L vs ds Qd Q G rd q k => by
  unfold gAny at q
  split at q
  · split at q
    · rename_i bs hb
      obtain ⟨x, rfl, a, xs, rfl, f, r⟩ := rdl1 rd
      rw [bls_some hb] at r
      rw [repL_bls' r] at f
      exact ⟨a, bs, rfl, SqL.of f, k _ _ _ _ q (G.also (r := .dat (.bl _)) rfl rfl)⟩
    · exact q.elim
  · exact q.elim⟩⟩
/-- the greatest, the least -/
def mxI : List Int → Int
  | [] => 0
  | x :: xs => xs.foldl (fun a b => if b > a then b else a) x
def mnI : List Int → Int
  | [] => 0
  | x :: xs => xs.foldl (fun a b => if b < a then b else a) x
theorem foldmax (xs : List Int) : ∀ x : Int, (xs.foldl (fun a b => if b > a then b else a) x = x ∨ xs.foldl (fun a b => if b > a then b else a) x ∈ xs) ∧ x ≤ xs.foldl (fun a b => if b > a then b else a) x ∧ ∀ y ∈ xs, y ≤ xs.foldl (fun a b => if b > a then b else a) x := by
  induction xs with
  | nil => intro x; exact ⟨.inl rfl, Int.le_refl _, fun y h => by simp at h⟩
  | cons z xs ih =>
    intro x
    obtain ⟨h1, h2, h3⟩ := ih (if z > x then z else x)
    simp only [List.foldl_cons]
    have hz : z ≤ (if z > x then z else x) ∧ x ≤ (if z > x then z else x) := by split <;> omega
    refine ⟨?_, by omega, fun y hy => ?_⟩
    · rcases h1 with h | h
      · rw [h]
        split
        · exact .inr (by simp)
        · exact .inl rfl
      · exact .inr (List.mem_cons_of_mem _ h)
    · rcases List.mem_cons.mp hy with rfl | hy
      · omega
      · exact h3 y hy
theorem foldmin (xs : List Int) : ∀ x : Int, (xs.foldl (fun a b => if b < a then b else a) x = x ∨ xs.foldl (fun a b => if b < a then b else a) x ∈ xs) ∧ xs.foldl (fun a b => if b < a then b else a) x ≤ x ∧ ∀ y ∈ xs, xs.foldl (fun a b => if b < a then b else a) x ≤ y := by
  induction xs with
  | nil => intro x; exact ⟨.inl rfl, Int.le_refl _, fun y h => by simp at h⟩
  | cons z xs ih =>
    intro x
    obtain ⟨h1, h2, h3⟩ := ih (if z < x then z else x)
    simp only [List.foldl_cons]
    have hz : (if z < x then z else x) ≤ z ∧ (if z < x then z else x) ≤ x := by split <;> omega
    refine ⟨?_, by omega, fun y hy => ?_⟩
    · rcases h1 with h | h
      · rw [h]
        split
        · exact .inr (by simp)
        · exact .inl rfl
      · exact .inr (List.mem_cons_of_mem _ h)
    · rcases List.mem_cons.mp hy with rfl | hy
      · omega
      · exact h3 y hy
theorem mxI_spec {l : List Int} (h : l ≠ []) : mxI l ∈ l ∧ ∀ y ∈ l, y ≤ mxI l := by
  cases l with
  | nil => exact absurd rfl h
  | cons x xs =>
    obtain ⟨h1, h2, h3⟩ := foldmax xs x
    refine ⟨?_, fun y hy => ?_⟩
    · rcases h1 with z | z
      · show xs.foldl _ x ∈ x :: xs
        rw [z]
        simp
      · exact List.mem_cons_of_mem _ z
    · rcases List.mem_cons.mp hy with rfl | hy
      · exact h2
      · exact h3 y hy
theorem mnI_spec {l : List Int} (h : l ≠ []) : mnI l ∈ l ∧ ∀ y ∈ l, mnI l ≤ y := by
  cases l with
  | nil => exact absurd rfl h
  | cons x xs =>
    obtain ⟨h1, h2, h3⟩ := foldmin xs x
    refine ⟨?_, fun y hy => ?_⟩
    · rcases h1 with z | z
      · show xs.foldl _ x ∈ x :: xs
        rw [z]
        simp
      · exact List.mem_cons_of_mem _ z
    · rcases List.mem_cons.mp hy with rfl | hy
      · exact h2
      · exact h3 y hy
def gMax : COp
  | [.lst l], k => match dints l with
    | some bs => bs ≠ [] ∧ k (.dat (.int (mxI bs)))
    | none => False
  | [.int i, .int j], k => k (.dat (.int (if j > i then j else i)))
  | _, _ => False
def gMin : COp
  | [.lst l], k => match dints l with
    | some bs => bs ≠ [] ∧ k (.dat (.int (mnI bs)))
    | none => False
  | [.int i, .int j], k => k (.dat (.int (if j < i then j else i)))
  | _, _ => False
def gSum : COp
  | [.lst l], k => match dints l with
    | some bs => k (.dat (.int bs.sum))
    | none => False
  | _, _ => False
theorem ok_max (hc : X.calm = true := by rfl) : CbOk X c (.builtin "max") gMax := ⟨⟨_, (cr_max hc).or (call_max2 hc), fun F H L vs ds Qd Q G rd q k => by
  unfold gMax at q
  split at q
  · split at q
    · rename_i bs hb
      obtain ⟨x, rfl, a, xs, rfl, f, r⟩ := rdl1 rd
      rw [dints_some hb] at r
      rw [repL_ints' r] at f
      refine .inl ⟨a, bs, rfl, SqL.of f, List.length_pos_iff.mpr q.1, fun m hm hle => ?_⟩
      obtain ⟨z1, z2⟩ := mxI_spec q.1
      have : m = mxI bs := Int.le_antisymm (z2 m hm) (hle _ z1)
      rw [this]
      exact k _ _ _ _ q.2 (G.also (r := .dat (.int _)) rfl rfl)
    · exact q.elim
  · rename_i i j
    obtain ⟨x, y, rfl, r1, r2⟩ := rdl2 rd
    exact .inr ⟨i, j, by rw [show x = .int i from r1, show y = .int j from r2], k _ _ _ _ q (G.also (r := .dat (.int _)) rfl rfl)⟩
  · exact q.elim⟩⟩
theorem ok_min (hc : X.calm = true := by rfl) : CbOk X c (.builtin "min") gMin := ⟨⟨_, (cr_min hc).or (call_min2 hc), fun F H L vs ds Qd Q G rd q k => by
  unfold gMin at q
  split at q
  · split at q
    · rename_i bs hb
      obtain ⟨x, rfl, a, xs, rfl, f, r⟩ := rdl1 rd
      rw [dints_some hb] at r
      rw [repL_ints' r] at f
      refine .inl ⟨a, bs, rfl, SqL.of f, List.length_pos_iff.mpr q.1, fun m hm hle => ?_⟩
      obtain ⟨z1, z2⟩ := mnI_spec q.1
      have : m = mnI bs := Int.le_antisymm (hle _ z1) (z2 m hm)
      rw [this]
      exact k _ _ _ _ q.2 (G.also (r := .dat (.int _)) rfl rfl)
    · exact q.elim
  · rename_i i j
    obtain ⟨x, y, rfl, r1, r2⟩ := rdl2 rd
    exact .inr ⟨i, j, by rw [show x = .int i from r1, show y = .int j from r2], k _ _ _ _ q (G.also (r := .dat (.int _)) rfl rfl)⟩
  · exact q.elim⟩⟩
theorem ok_sum (hc : X.calm = true := by rfl) : CbOk X c (.builtin "sum") gSum := ⟨⟨_, cr_sum hc, fun F H L vs ds Qd Q G rd q k => by
  unfold gSum at q
  split at q
  · split at q
    · rename_i bs hb
      obtain ⟨x, rfl, a, xs, rfl, f, r⟩ := rdl1 rd
      rw [dints_some hb] at r
      rw [repL_ints' r] at f
      exact ⟨a, bs, rfl, SqL.of f, k _ _ _ _ q (G.also (r := .dat (.int _)) rfl rfl)⟩
    · exact q.elim
  · exact q.elim⟩⟩
def gTuple : COp
  | [.lst l], k => k (.dat (.tup l))
  | [.tup l], k => k (.dat (.tup l))
  | _, _ => False
theorem ok_tuple : CbOk X c (.type "tuple") gTuple := ⟨⟨_, call_tuple_of, fun F H L vs ds Qd Q G rd q k => by
  unfold gTuple at q
  split at q
  · obtain ⟨x, rfl, a, xs, rfl, f, r⟩ := rdl1 rd
    exact ⟨a, xs, rfl, .inl ⟨SqL.of f, fun p hp => k _ _ _ _ q (G.newTup hp r)⟩⟩
  · rename_i l
    obtain ⟨x, rfl, a, xs, rfl, f, r⟩ := rdl1 rd
    exact ⟨a, xs, rfl, .inr ⟨SqT.of (G.sub _ _ f), k _ _ _ _ q (G.also (r := .dat (.tup l)) ⟨a, xs, rfl, f, r⟩ rfl)⟩⟩
  · exact q.elim⟩⟩
def gList : COp
  | [.lst l], k => ∀ a, k (.lst false a l)
  | [.tup l], k => ∀ a, k (.lst false a l)
  | _, _ => False
theorem ok_list : CbOk X c (.type "list") gList := ⟨⟨_, call_list_of, fun F H L vs ds Qd Q G rd q k => by
  unfold gList at q
  split at q
  · obtain ⟨x, rfl, a, xs, rfl, f, r⟩ := rdl1 rd
    exact ⟨a, xs, rfl, .inl (SqL.of f), fun p hp => k _ _ _ _ (q p) (G.newOwn hp r)⟩
  · rename_i l
    obtain ⟨x, rfl, a, xs, rfl, f, r⟩ := rdl1 rd
    exact ⟨a, xs, rfl, .inr (SqT.of (G.sub _ _ f)), fun p hp => k _ _ _ _ (q p) (G.newOwn hp r)⟩
  · exact q.elim⟩⟩
/-! ### isinstance -/
def tyn : D → String
  | .non => "NoneType"
  | .bl _ => "bool"
  | .int _ => "int"
  | .str _ => "str"
  | .tup _ => "tuple"
  | .lst _ => "list"
  | .dk _ _ => "dict"
  | .dt _ _ => "dict"
  | .scr _ => "list"
/-- isinstance(d, T) -/
def isT (T : String) (d : D) : Bool := tyn d == T || (T == "int" && tyn d == "bool")
theorem kit_all : ∀ T ∈ ["int", "bool", "str", "tuple", "list", "dict"], ∀ a ∈ ["NoneType", "bool", "int", "str", "tuple", "list", "dict"], kitB a T = some (a == T || (T == "int" && a == "bool")) := by decide +kernel
theorem tyn_mem (d : D) : tyn d ∈ ["NoneType", "bool", "int", "str", "tuple", "list", "dict"] := by cases d <;> simp [tyn]
theorem tyx {K : PySem.W.Frag} {F H : Hp} (s : Same F H) {d : D} {x : V} (h : RdD K F H d x) (hs : ∀ l, d ≠ .scr l) (ht : ∀ ks l, d ≠ .dt ks l) : TyX K H x (.type (tyn d)) := by
  cases d with
  | non => cases (show x = .non from h); exact .base .non
  | bl b => cases (show x = .bl b from h); exact .base (.bl b)
  | int b => cases (show x = .int b from h); exact .base (.int b)
  | str b => cases (show x = .str b from h); exact .base (.str b)
  | tup l => obtain ⟨a, xs, rfl, f, _⟩ := h; exact .base (.tup (s _ _ f))
  | lst l => obtain ⟨a, xs, rfl, f, _⟩ := h; exact .base (.lst f)
  | dk ks l =>
    obtain ⟨a, xs, rfl, f, _⟩ := h
    rcases f with f | ⟨od, f⟩
    · exact .base (.dK f)
    · exact .fDict f
  | dt ks l => exact absurd rfl (ht ks l)
  | scr l => exact absurd rfl (hs l)
def wIsi (T : String) (wa : W) : W := fun Γ Q => wa Γ fun r Γ1 => peek Γ1 r fun d => (match d with
  | .scr _ => False
  | .dt _ _ => False
  | _ => True) ∧ Q (.dat (.bl (isT T d))) Γ1
theorem pd_isi {a : Expr} {p : Pos} {x : Str} {T : String} {pb : Pos} (hT : T ∈ ["int", "bool", "str", "tuple", "list", "dict"]) (hmi : X.mg "isinstance" = none) (hm : X.mg x = none) (hv : bootBuiltins x = some (.type T)) (ha : PE X a (lift c wa)) (hK : X.K = c.K := by rfl) (hgi : Gl X "isinstance" := by rfl) (hg : Gl X x := by rfl)
    (hn : x ≠ "__name__" := by decide) (hdb : (x == ("__debug__" : Str)) = false := by decide) (hs1 : starEach [a, .Name x pb] X.env = (false, eval a X.env) :: starEach [.Name x pb] X.env := by rfl) (hs2 : starEach [.Name x pb] X.env = (false, eval (.Name x pb) X.env) :: starEach [] X.env := by rfl)
    (hpl : (backTo pos (starEach [.Name x pb] X.env)).any (·.1) = false := by rfl) :
    PE X (.Call (.Name "isinstance" p) [a, .Name x pb] [] pos) (lift c (wIsi T wa)) := by
  refine (pe_callB call_isi hgi hmi (by decide +kernel) (pa_cons ha (pa_cons (pe_bltn (v := .ty T) hg hm hv rfl hn hdb) pa_nil hs2) hs1) (by decide) (by decide) hs1 hpl).imp fun σ H Q ⟨Γ, Tp, Qd, hR, hw, k⟩ => ?_
  refine ⟨Γ, Tp, _, hR, hw, fun r Γ1 v H1 q1 R1 => ?_⟩
  obtain ⟨F, E, he, G⟩ := R1
  obtain ⟨d, ⟨hd, q⟩, rd⟩ := G.peek (r := r) (v := v) he (fun z hz => List.mem_append_left _ hz) (by simp) q1
  have ns : ∀ l, d ≠ .scr l := fun l z => by
    subst z
    exact hd
  have nt : ∀ ks l, d ≠ .dt ks l := fun ks l z => by
    subst z
    exact hd
  refine ⟨v, .ty T, .type (tyn d), .type T, isT T d, rfl, .ty T, by rw [hK]; exact tyx G.sub rd ns nt, kit_ty (kit_all T hT _ (tyn_mem d)), ?_⟩
  exact k _ _ _ _ q ⟨F, E, he, (((G.perm (front _ _ _)).tail).also (r := .dat (.bl (isT T d))) rfl rfl).perm (front _ _ _).symm⟩
/-! ### methods that change a list -/
abbrev MOp := List D → List D → (D → List D → Prop) → Prop
structure MtOk (X : Cx) (id : String) (m : MOp) : Prop where
  ex : ∃ rr, MtR X id rr ∧ ∀ (K : PySem.W.Frag) (F H : Hp) (a : Addr) (l : List D) (xs : List V) (ds : List D) (vs : List V) (Qd : D → List D → Prop) (Q : VK), Same F H → H a = some (.lst xs) → RepL K F l xs → RepL K F ds vs → m l ds Qd →
    (∀ d l' v xs', Qd d l' → RepL K F l' xs' → RepD K F d v → Q v (upd H a (.lst xs'))) → rr (.ref a) vs H Q
def isMut (Γ : Gm) (i : Nat) : Prop := match nth Γ i with
  | some (.lst _ _ _) => True
  | _ => False
def wMut (m : MOp) (i : Nat) (t : WA) : W := fun Γ Q => isMut Γ i ∧ t Γ fun rs Γ1 => takes rs Γ1 fun ds Γ2 => match nth Γ i, nth Γ2 i with
  | some (.lst _ a0 _), some (.lst p a l) => a0 = a ∧ m l ds fun d l' => Q (.dat d) (put Γ2 i (.lst p a l'))
  | _, _ => False
theorem slot_ref {i : Nat} {r : R} {ad : Addr} (h : Rel c σ H Γ T) (hr : nth Γ i = some r) (hd : r.ad = [ad]) : σ[i]? = some (some (.ref ad)) := by
  obtain ⟨F, E, he, G⟩ := h
  obtain ⟨v, E1, E2, h1, rfl, _, _⟩ := he.at (nth_some hr)
  have q := G.rep (r, v) (by simp)
  cases r with
  | dat d => cases hd
  | adr j b => cases hd
  | lst p b l => have e : b = ad := by simpa [R.ad] using hd
                 subst e
                 rw [h1, show v = .ref b from q.1]
  | dk p z b l => have e : b = ad := by simpa [R.ad] using hd
                  subst e
                  rw [h1, show v = .ref b from q.1]
  | dt p z b l => have e : b = ad := by simpa [R.ad] using hd
                  subst e
                  rw [h1, show v = .ref b from q.1]
/-- what a slot's list holds is changed -/
theorem Rel.mutate {i : Nat} {ad : Addr} {p : Bool} {l : List D} {ds : List D} {vs : List V} (h : Rel c σ H Γ ((ds.map R.dat).zip vs ++ T)) (hl : ds.length = vs.length) (hr : nth Γ i = some (.lst p ad l)) :
    ∃ F xs, Same F H ∧ H ad = some (.lst xs) ∧ RepL c.K F l xs ∧ RepL c.K F ds vs ∧ ∀ l' d v xs', RepL c.K F l' xs' → RepD c.K F d v → Rel c σ (upd H ad (.lst xs')) (put Γ i (.lst p ad l')) ((.dat d, v) :: T) := by
  obtain ⟨F, E, he, G⟩ := h
  obtain ⟨w, E1, E2, h1, rfl, h3, _⟩ := he.at (nth_some hr)
  obtain ⟨e1, hF, h0, xs, hx, rl⟩ : w = .ref ad ∧ F ad = none ∧ Who c p ad ∧ ∃ xs, H ad = some (.lst xs) ∧ RepL c.K F l xs := G.rep (.lst p ad l, w) (by simp)
  have G0 : Good c F H ((ds.map R.dat).zip vs ++ ((E1 ++ _ :: E2) ++ T)) := G.perm (zip_left _ _ _)
  have rds := Good.repL hl G0
  have G1 := (G0.less (List.sublist_append_right _ _)).perm (front2 _ _ _ _)
  refine ⟨F, xs, G.sub, hx, rl, rds, fun l' d v xs' r1 r2 => ?_⟩
  have G2 : Good c F (upd H ad (.lst xs')) ((.lst p ad l', w) :: (E1 ++ E2 ++ T)) := G1.turn rfl rfl h0 ⟨e1, hF, h0, xs', upd_same, r1⟩
  rw [put_set]
  exact ⟨F, _, h3 _, ((G2.perm (front2 _ _ _ _).symm).also (r := .dat d) r2 rfl).perm (front _ _ _).symm⟩
theorem mut_end {rr : V → List V → Hp → VK → Prop} {m : MOp} {i : Nat} {t : WA} {Q : VK}
    (h2 : ∀ (K : PySem.W.Frag) (F H : Hp) (a : Addr) (l : List D) (xs : List V) (ds : List D) (vs : List V) (Qd : D → List D → Prop) (Q : VK), Same F H → H a = some (.lst xs) → RepL K F l xs → RepL K F ds vs → m l ds Qd →
      (∀ d l' v xs', Qd d l' → RepL K F l' xs' → RepD K F d v → Q v (upd H a (.lst xs'))) → rr (.ref a) vs H Q) (q : lift c (wMut m i t) σ H Q) : ∃ ad xs, σ[i]? = some (some (.ref ad)) ∧ H ad = some (.lst xs) ∧ liftA c t σ H fun vs H1 => rr (.ref ad) vs H1 Q := by
  obtain ⟨Γ, T, Qd, hR, ⟨hm, hw⟩, k⟩ := q
  unfold isMut at hm
  split at hm
  · rename_i p0 ad l0 hr
    have h1 := slot_ref hR hr rfl
    obtain ⟨_, xs, _, hx, _⟩ := Rel.mutate (ds := []) (vs := []) (by simpa using hR) rfl hr
    refine ⟨ad, xs, h1, hx, Γ, T, _, hR, hw, fun rs Γ1 vs H1 q1 hl R1 => ?_⟩
    obtain ⟨ds, Γ2, q2, R2, e2⟩ := R1.takes hl q1
    rw [hr] at q2
    split at q2
    · rename_i p1 a0 l1 p ad2 l2 e1 e3
      cases e1
      obtain ⟨rfl, q2⟩ := q2
      obtain ⟨F, ys, s, hy, rl, rds, fin⟩ := Rel.mutate R2 e2 e3
      exact h2 c.K F H1 _ _ ys ds vs _ Q s hy rl rds q2 fun d l' v xs' hq' r1 r2 => k _ _ _ _ hq' (fin l' d v xs' r1 r2)
    · exact q2.elim
  · exact hm.elim
theorem pd_mt {m : MOp} {i : Nat} {t : WA} {name : Str} {id : String} {x : Str} {px apos cpos : Pos} {es : List Expr} (ho : MtOk X id m) (pa : PlainAttrs "list") (slot : Slot "list" name id) (hty : typeOf (.builtin id) = pure (.type "method_descriptor"))
    (hN : X.N[i]? = some x) (hv : Vis X.env.scope x) (ha : PA X (e :: es) (liftA c t)) (hd : (x == ("__debug__" : Str)) = false := by decide) (hcd : (x == ("__classdict__" : Str)) = false := by decide)
    (hbase : attributeBase (.Name x px) name X.env (eval (.Name x px) X.env) = eval (.Name x px) X.env := by rfl)
    (hfew : ((backTo cpos (starEach (e :: es) X.env)).all (fun x => !x.1) && (backToKw cpos (keywordEach [] X.env)).all (fun x => x.1.isSome) && decide ((e :: es).length + ([] : List Keyword).length + (if ([] : List Keyword).isEmpty then 0 else 1) < 30)) = true := by rfl)
    (hline : (apos.endLine == cpos.line) = true := by rfl) (hs : starEach (e :: es) X.env = (false, eval e X.env) :: starEach es X.env := by rfl) (hplain : (backTo cpos (starEach es X.env)).any (·.1) = false := by rfl) :
    PE X (.Call (.Attribute (.Name x px) name apos) (e :: es) [] cpos) (lift c (wMut m i t)) := by
  obtain ⟨rr, h1, h2⟩ := ho.ex
  refine (pe_bm pa slot hty h1 (pe_var hN hv hd hcd) ha hbase hfew hline hs hplain).imp fun σ H Q q => ?_
  obtain ⟨ad, xs, e1, e2, z⟩ := mut_end h2 q
  exact ⟨.ref ad, e1, .inl ⟨rfl, xs, SqL.of e2⟩, z⟩
theorem pd_mt0 {m : MOp} {i : Nat} {name : Str} {id : String} {x : Str} {px apos cpos : Pos} (ho : MtOk X id m) (pa : PlainAttrs "list") (slot : Slot "list" name id) (hty : typeOf (.builtin id) = pure (.type "method_descriptor"))
    (hN : X.N[i]? = some x) (hv : Vis X.env.scope x) (hd : (x == ("__debug__" : Str)) = false := by decide) (hcd : (x == ("__classdict__" : Str)) = false := by decide)
    (hbase : attributeBase (.Name x px) name X.env (eval (.Name x px) X.env) = eval (.Name x px) X.env := by rfl) (hline : (apos.endLine == cpos.line) = true := by rfl) :
    PE X (.Call (.Attribute (.Name x px) name apos) [] [] cpos) (lift c (wMut m i waN)) := by
  obtain ⟨rr, h1, h2⟩ := ho.ex
  refine (pe_bm0 pa slot hty h1 (pe_var hN hv hd hcd) hbase hline).imp fun σ H Q q => ?_
  obtain ⟨ad, xs, e1, e2, Γ, T, Qd, hR, hw, k⟩ := mut_end h2 q
  exact ⟨.ref ad, e1, .inl ⟨rfl, xs, SqL.of e2⟩, k [] Γ [] H hw rfl hR⟩
def mAppend : MOp := fun l ds k => match ds with
  | [d] => l.length < 1000000 ∧ k .non (l ++ [d])
  | _ => False
def mExtend : MOp := fun l ds k => match ds with
  | [.lst m] => l.length + m.length ≤ 1000000 ∧ k .non (l ++ m)
  | _ => False
def mPop : MOp := fun l ds k => match ds with
  | [] => (match l.getLast? with
    | some d => k d l.dropLast
    | none => False)
  | [.int i] => 0 ≤ i ∧ l.length ≤ 1000000 ∧ (match l[i.toNat]? with
    | some d => k d (l.eraseIdx i.toNat)
    | none => False)
  | _ => False
def mInsert : MOp := fun l ds k => match ds with
  | [.int i, d] => 0 ≤ i ∧ i ≤ 1000000 ∧ l.length < 1000000 ∧ k .non (l.take i.toNat ++ [d] ++ l.drop i.toNat)
  | _ => False
theorem repL1 {K : PySem.W.Frag} {F : Hp} {d : D} {vs : List V} (h : RepL K F [d] vs) : ∃ x, vs = [x] ∧ RepD K F d x := by
  obtain ⟨x, r, rfl, a, b⟩ := h
  cases (show r = [] from b)
  exact ⟨x, rfl, a⟩
theorem repL2 {K : PySem.W.Frag} {F : Hp} {d e : D} {vs : List V} (h : RepL K F [d, e] vs) : ∃ x y, vs = [x, y] ∧ RepD K F d x ∧ RepD K F e y := by
  obtain ⟨x, r, rfl, a, b⟩ := h
  obtain ⟨y, e, z⟩ := repL1 b
  subst e
  exact ⟨x, y, rfl, a, z⟩
theorem ok_append : MtOk X "list.append" mAppend := ⟨⟨_, mt_append, fun K F H a l xs ds vs Qd Q s hx rl rd q k => by
  unfold mAppend at q
  split at q
  · rename_i d
    obtain ⟨x, rfl, r⟩ := repL1 rd
    exact ⟨a, xs, x, rfl, rfl, hx, by rw [rl.length]; exact lineL q.1, k _ _ _ _ q.2 (rl.append (.one r)) rfl⟩
  · exact q.elim⟩⟩
theorem ok_extend : MtOk X "list.extend" mExtend := ⟨⟨_, mt_extend, fun K F H a l xs ds vs Qd Q s hx rl rd q k => by
  unfold mExtend at q
  split at q
  · rename_i m
    obtain ⟨x, rfl, b, ys, rfl, f, r⟩ := repL1 rd
    exact ⟨a, b, xs, ys, rfl, rfl, hx, s _ _ f, by rw [rl.length, r.length]; exact lineM q.1, k _ _ _ _ q.2 (rl.append r) rfl⟩
  · exact q.elim⟩⟩
theorem seqIx {n : Nat} {i : Int} (h0 : 0 ≤ i) (h : i.toNat < n) : seqIndex? i n = some i.toNat := by
  have q : ixN n i = some i.toNat := by
    unfold ixN
    rw [if_pos h0, if_pos (by omega)]
  exact (ixN_seq q).1
theorem ok_pop : MtOk X "list.pop" mPop := ⟨⟨_, (show MtR X "list.pop" rPop from mt_pop).or (show MtR X "list.pop" rPopAt from mt_popAt), fun K F H a l xs ds vs Qd Q s hx rl rd q k => by
  unfold mPop at q
  split at q
  · split at q
    · rename_i d hd
      cases (show vs = [] from rd)
      rw [List.getLast?_eq_getElem?] at hd
      obtain ⟨x, h1, h2⟩ := rl.get hd
      have e : RepL K F l.dropLast xs.dropLast := by
        rw [List.dropLast_eq_take, List.dropLast_eq_take, rl.length]
        exact rl.take _
      exact .inl ⟨a, xs, x, rfl, rfl, hx, by rw [rl.length]; exact h1, k _ _ _ _ q e h2⟩
    · exact q.elim
  · rename_i i
    obtain ⟨q0, qz, q⟩ := q
    split at q
    · rename_i d hd
      obtain ⟨v, rfl, r⟩ := repL1 rd
      cases (show v = .int i from r)
      obtain ⟨x, h1, h2⟩ := rl.get hd
      have hlt := (List.getElem?_eq_some_iff.mp hd).1
      exact .inr ⟨a, xs, i, i.toNat, x, rfl, rfl, hx, by omega, by omega, by rw [rl.length]; exact seqIx q0 hlt, h1, k _ _ _ _ q (rl.erase _) h2⟩
    · exact q.elim
  · exact q.elim⟩⟩
theorem ok_insert : MtOk X "list.insert" mInsert := ⟨⟨_, mt_insert, fun K F H a l xs ds vs Qd Q s hx rl rd q k => by
  unfold mInsert at q
  split at q
  · rename_i i d
    obtain ⟨v, y, rfl, r, r2⟩ := repL2 rd
    cases (show v = .int i from r)
    obtain ⟨q0, q1, q2, q3⟩ := q
    exact ⟨a, xs, i, y, rfl, rfl, hx, by rw [rl.length]; exact lineL q2, q0, by omega, k _ _ _ _ q3 (((rl.take _).append (.one r2)).append (rl.drop _)) rfl⟩
  · exact q.elim⟩⟩
end
end Dl
/-! ## statements, loops, comprehensions -/
namespace Dl
open PySem PySem.Spec PyProof.Rows
open L2
section
variable {X : Cx} {c : Cn} {e a b : Expr} {σ : L2.St} {H : Hp} {Γ : Gm} {T : Ls} {wa wb wc : W} {pos : Pos} {ta tb : WT} {t u : WS} {st : Stmt} {rest : List Stmt}
def wNil : WS := fun E Γ => E.nx Γ
def wSeq (t u : WS) : WS := fun E Γ => t { E with nx := fun Γ' => u E Γ' } Γ
theorem psd_nil : PSs X [] (liftS c wNil) := pss_nil.imp fun E σ H ⟨Γ, T, Ed, hR, hw, k1, k2⟩ => k1 _ _ _ hw hR
theorem psd_cons (h1 : PS X st (liftS c t)) (h2 : PSs X rest (liftS c u)) : PSs X (st :: rest) (liftS c (wSeq t u)) :=
  (pss_cons h1 h2).imp fun E σ H ⟨Γ, T, Ed, hR, hw, k1, k2⟩ => ⟨Γ, T, { Ed with nx := fun Γ' => u Ed Γ' }, hR, hw, fun Γ' σ' H' q R => ⟨Γ', T, Ed, R, q, k1, k2⟩, k2⟩
theorem psd_one (h1 : PS X st (liftS c t)) : PSs X [st] (liftS c t) := pss_one h1
theorem psd_pass : PS X (.Pass pos) (liftS c wNil) := ps_pass.imp fun E σ H ⟨Γ, T, Ed, hR, hw, k1, k2⟩ => k1 _ _ _ hw hR
def wNo : WS := fun _ _ => False
theorem psd_no : PS X st (liftS c wNo) := ⟨fun _ _ _ _ _ _ ⟨_, _, _, _, hw, _⟩ => hw.elim⟩
def wRet (wa : W) : WS := fun E Γ => wa Γ fun r Γ' => E.rt r Γ'
theorem psd_ret (ha : PE X a (lift c wa)) : PS X (.Return (some a) pos) (liftS c (wRet wa)) := (ps_ret ha).imp fun E σ H ⟨Γ, T, Ed, hR, hw, k1, k2⟩ => ⟨Γ, T, _, hR, hw, fun r Γ' v H' q R => k2 _ _ _ _ _ q R⟩
def wIfS (tc : WT) (t u : WS) : WS := fun E Γ => tc Γ fun b Γ' => match b with
  | true => t E Γ'
  | false => u E Γ'
theorem psd_if {tst : Expr} {sa sb : List Stmt} (hc : PT X tst (liftT c ta)) (ha : PSs X sa (liftS c t)) (hb : PSs X sb (liftS c u)) : PS X (.If tst sa sb pos) (liftS c (wIfS ta t u)) := by
  refine (ps_if hc ha hb).imp fun E σ H ⟨Γ, T, Ed, hR, hw, k1, k2⟩ => ⟨Γ, T, _, hR, hw, fun d Γ1 H1 q1 R1 => ?_⟩
  cases d with
  | true =>
    rw [if_pos rfl]
    exact ⟨Γ1, T, Ed, R1, q1, k1, k2⟩
  | false =>
    rw [if_neg Bool.false_ne_true]
    exact ⟨Γ1, T, Ed, R1, q1, k1, k2⟩
def wDrop (wa : W) : WS := fun E Γ => wa Γ fun _ Γ' => E.nx Γ'
theorem psd_expr (ha : PE X a (lift c wa)) (hs : swapsWith a none pos.line X.env = pure false := by rfl) : PS X (.Expr a pos) (liftS c (wDrop wa)) :=
  (ps_expr ha hs).imp fun E σ H ⟨Γ, T, Ed, hR, hw, k1, k2⟩ => ⟨Γ, T, _, hR, hw, fun r Γ' v H' q R => k1 _ _ _ q R.tail⟩
/-! ### names stored -/
def stN (i : Nat) (r : R) (Γ : Gm) (k : Gm → Prop) : Prop := i < Γ.length ∧ match r with
  | .dat d => k (put Γ i (.dat d))
  | .lst false a l => k (put Γ i (.lst false a l))
  | .dk false none a l => k (put Γ i (.dk false none a l))
  | .dt false none a l => k (put Γ i (.dt false none a l))
  | .adr j a => take (.adr j a) Γ fun d Γ1 => k (put Γ1 i (.dat d))
  | _ => False
theorem put_len : ∀ (Γ : Gm) (i : Nat) (r : R), (put Γ i r).length = Γ.length := fun Γ i r => by rw [put_set, List.length_set]
theorem Rel.len (h : Rel c σ H Γ T) : Γ.length = σ.length := by
  obtain ⟨F, E, he, G⟩ := h
  exact he.length
theorem Rel.store {i : Nat} {r : R} {v : V} {k : Gm → Prop} (h : Rel c σ H Γ ((r, v) :: T)) (q : stN i r Γ k) : ∃ Γ', k Γ' ∧ Rel c (σ.set i (some v)) H Γ' T := by
  obtain ⟨hi, q⟩ := q
  have core : ∀ {r : R} {Γ : Gm}, i < Γ.length → Rel c σ H Γ ((r, v) :: T) → Rel c (σ.set i (some v)) H (put Γ i r) T := fun {r Γ} hi h => by
    obtain ⟨F, E, he, G⟩ := h
    obtain ⟨E1, o, E2, rfl, h2⟩ := he.put hi
    rw [put_set]
    refine ⟨F, _, h2 r v, ?_⟩
    have G1 := (G.perm (front _ _ _))
    have G2 : Good c F H ((r, v) :: (E1 ++ E2 ++ T)) := G1.less (((List.Sublist.append_right (List.Sublist.append_right (List.sublist_append_left E1 o) E2) T)).cons₂ _)
    exact G2.perm (front2 _ _ _ _).symm
  split at q
  · exact ⟨_, q, core hi h⟩
  · exact ⟨_, q, core hi h⟩
  · exact ⟨_, q, core hi h⟩
  · exact ⟨_, q, core hi h⟩
  · obtain ⟨d, Γ1, q1, R1⟩ := h.take q
    exact ⟨_, q1, core (by rw [R1.len, ← h.len]; exact hi) R1⟩
  · exact q.elim
abbrev WG := R → Gm → (Gm → Prop) → Prop
abbrev WGs := List D → Gm → (Gm → Prop) → Prop
def SameBut (tg : List Nat) (σ σ' : L2.St) : Prop := σ'.length = σ.length ∧ ∀ j, j ∉ tg → σ'[j]? = σ[j]?
theorem SameBut.refl {tg : List Nat} : SameBut tg σ σ := ⟨rfl, fun _ _ => rfl⟩
theorem SameBut.set {tg : List Nat} {i : Nat} {y : Option V} (hi : i ∈ tg) : SameBut tg σ (σ.set i y) := ⟨List.length_set, fun j hj => List.getElem?_set_ne fun z => hj (by rw [← z]; exact hi)⟩
theorem SameBut.trans {tg : List Nat} {σ1 σ2 : L2.St} (h1 : SameBut tg σ σ1) (h2 : SameBut tg σ1 σ2) : SameBut tg σ σ2 := ⟨h2.1.trans h1.1, fun j hj => (h2.2 j hj).trans (h1.2 j hj)⟩
theorem wipe_get : ∀ (vs : List Nat) (σ : L2.St) (j : Nat), (wipe σ vs)[j]? = if j ∈ vs ∧ j < σ.length then some none else σ[j]?
  | [], σ, j => by simp [wipe]
  | v :: vs, σ, j => by
    unfold wipe
    by_cases hv : v = j
    · subst hv
      by_cases hl : v < σ.length
      · rw [List.getElem?_set_self (by rw [wipe_length]; exact hl), if_pos ⟨by simp, hl⟩]
      · rw [List.getElem?_eq_none (by rw [List.length_set, wipe_length]; omega), if_neg (fun z => hl z.2), List.getElem?_eq_none (by omega)]
    · rw [List.getElem?_set_ne hv, wipe_get vs σ j]
      by_cases hj : j ∈ vs ∧ j < σ.length
      · rw [if_pos hj, if_pos ⟨List.mem_cons_of_mem _ hj.1, hj.2⟩]
      · rw [if_neg hj, if_neg (fun z => hj ⟨(List.mem_cons.mp z.1).resolve_left (fun z => hv z.symm), z.2⟩)]
theorem SameBut.wipe {tg vs : List Nat} {σ' : L2.St} (h : SameBut tg σ σ') (hv : ∀ i ∈ tg, i ∈ vs) : wipe σ' vs = wipe σ vs := by
  refine List.ext_getElem? fun j => ?_
  rw [wipe_get, wipe_get, h.1]
  by_cases hj : j ∈ vs ∧ j < σ.length
  · rw [if_pos hj, if_pos hj]
  · rw [if_neg hj, if_neg hj]
    by_cases hl : j < σ.length
    · exact h.2 j fun z => hj ⟨hv j z, hl⟩
    · rw [List.getElem?_eq_none (by rw [h.1]; omega), List.getElem?_eq_none (by omega)]
def liftG (c : Cn) (tg : List Nat) (g : WG) : TG := fun v σ H Q => ∃ r Γ T Qd, Rel c σ H Γ ((r, v) :: T) ∧ g r Γ Qd ∧ ∀ Γ' σ' H', Qd Γ' → Rel c σ' H' Γ' T → SameBut tg σ σ' → Q σ' H'
def liftGs (c : Cn) (tg : List Nat) (g : WGs) : TGs := fun vs σ H Q => ∃ ds Γ T Qd, ds.length = vs.length ∧ Rel c σ H Γ ((ds.map R.dat).zip vs ++ T) ∧ g ds Γ Qd ∧ ∀ Γ' σ' H', Qd Γ' → Rel c σ' H' Γ' T → SameBut tg σ σ' → Q σ' H'
theorem _root_.L2.PG.imp {g g' : TG} {x : Expr} (h : PG X x g) (f : ∀ v σ H Q, g' v σ H Q → g v σ H Q) : PG X x g' := ⟨fun pins s σ H v u Q I r q => h.run pins s σ H v u Q I r (f v σ H Q q)⟩
theorem _root_.L2.PGs.imp {g g' : TGs} {xs : List Expr} (h : PGs X xs g) (f : ∀ v σ H Q, g' v σ H Q → g v σ H Q) : PGs X xs g' := ⟨fun pins s σ H v u Q I r q => h.run pins s σ H v u Q I r (f v σ H Q q)⟩
theorem pgd_n {i : Nat} {x : Str} (hN : X.N.Nodup) (hi : X.N[i]? = some x := by rfl) (hx : Loc X.env.scope x := by first | exact Or.inl rfl | exact Or.inr rfl) (hf : X.fn x = true ∨ X.env.scope.names.lookup x = some .local := by first | exact .inl rfl | exact .inr rfl) : PG X (.Name x pos) (liftG c [i] (stN i)) := by
  refine (pg_name hN hi hx hf).imp fun v σ H Q ⟨r, Γ, T, Qd, hR, hw, k⟩ => ?_
  obtain ⟨Γ', q, R'⟩ := hR.store hw
  exact k _ _ _ q R' (.set (by simp))
def stNil : WGs := fun ds Γ k => ds = [] ∧ k Γ
def stCons (g : WG) (gs : WGs) : WGs := fun ds Γ k => match ds with
  | d :: r => g (.dat d) Γ fun Γ' => gs r Γ' k
  | [] => False
theorem pgds_nil {tg : List Nat} : PGs X [] (liftGs c tg stNil) := pgs_nil.imp fun vs σ H Q ⟨ds, Γ, T, Qd, hl, hR, ⟨e, hw⟩, k⟩ => by
  subst e
  have : vs = [] := List.length_eq_zero_iff.mp hl.symm
  subst this
  exact ⟨rfl, k _ _ _ hw hR .refl⟩
theorem pgds_cons {tg1 tg2 : List Nat} {x : Expr} {xs : List Expr} {g : WG} {gs : WGs} (h1 : PG X x (liftG c tg1 g)) (h2 : PGs X xs (liftGs c tg2 gs)) (hs : (assignEach (x :: xs) X.env).map (·.2) = assign x X.env :: (assignEach xs X.env).map (·.2) := by rfl) :
    PGs X (x :: xs) (liftGs c (tg1 ++ tg2) (stCons g gs)) := (pgs_cons h1 h2 hs).imp fun vs σ H Q ⟨ds, Γ, T, Qd, hl, hR, hw, k⟩ => by
  cases ds with
  | nil => exact False.elim hw
  | cons d r =>
    cases vs with
    | nil => simp at hl
    | cons v vr =>
      have wk : ∀ {tg tg' : List Nat} {σ σ' : L2.St}, (∀ i ∈ tg, i ∈ tg') → SameBut tg σ σ' → SameBut tg' σ σ' := fun hh z => ⟨z.1, fun j hj => z.2 j fun w => hj (hh j w)⟩
      refine ⟨v, vr, rfl, .dat d, Γ, (r.map R.dat).zip vr ++ T, _, hR, hw, fun Γ' σ' H' q R' sb => ?_⟩
      exact ⟨r, Γ', T, Qd, by simpa using hl, R', q, fun Γ2 σ2 H2 q2 R2 sb2 => k _ _ _ q2 R2 ((wk (fun i hi => List.mem_append_left _ hi) sb).trans (wk (fun i hi => List.mem_append_right _ hi) sb2))⟩
def stTup (n : Nat) (gs : WGs) : WG := fun r Γ k => match r with
  | .dat (.tup l) => l.length = n ∧ gs l Γ k
  | _ => False
theorem Good.zips {F : Hp} : ∀ {ds : List D} {xs : List V} {L : Ls}, RepL c.K F ds xs → Good c F H L → Good c F H ((ds.map R.dat).zip xs ++ L)
  | [], xs, L, r, G => by cases (show xs = [] from r); exact G
  | d :: ds, xs, L, r, G => by
    obtain ⟨x, xr, rfl, r1, r2⟩ := r
    exact (Good.zips r2 G).also (r := .dat d) r1 rfl
theorem pgd_tup {tg : List Nat} {xs : List Expr} {k : Nat} {n : Nat} {gs : WGs} (hc : X.calm = true) (h : PGs X xs (liftGs c tg gs)) (hK : X.K = c.K := by rfl) (hn : (assignEach xs X.env).length = n := by rfl) (hst : (assignEach xs X.env).findIdx? (·.1) = none := by rfl) :
    PG X (.Tuple xs k pos) (liftG c tg (stTup n gs)) := (pg_tup hc h hn hst).imp fun v σ H Q ⟨r, Γ, T, Qd, hR, hw, kk⟩ => by
  unfold stTup at hw
  split at hw
  · rename_i l
    obtain ⟨F, E, he, G⟩ := hR
    obtain ⟨a, xs, rfl, f, r⟩ : RepD c.K F (.tup l) v := G.rep (.dat (.tup l), v) (by simp)
    refine ⟨a, xs, rfl, SqT.of (G.sub _ _ f), by rw [r.length]; exact hw.1, l, Γ, T, Qd, r.length.symm, ?_, hw.2, kk⟩
    exact ⟨F, E, he, (Good.zips r ((G.perm (front _ _ _)).tail)).perm (zip_left _ _ _)⟩
  · exact hw.elim
def wAsg (wa : W) (g : WG) : WS := fun E Γ => wa Γ fun r Γ1 => g r Γ1 E.nx
theorem psd_asg {tg : List Nat} {x : Expr} {g : WG} (ha : PE X a (lift c wa)) (hg : PG X x (liftG c tg g)) (hs : swapsWithSole [x] a pos.line X.env = pure false := by rfl) (hw : swappedStores [x] a X.env = pure none := by rfl) (h1 : (assignEach [x] X.env).map (·.2) = [assign x X.env] := by rfl) :
    PS X (.Assign [x] a pos) (liftS c (wAsg wa g)) := (ps_asg ha hg hs hw h1).imp fun E σ H ⟨Γ, T, Ed, hR, hw, k1, k2⟩ => ⟨Γ, T, _, hR, hw, fun r Γ1 v H1 q1 R1 => ⟨r, Γ1, T, _, R1, q1, fun Γ' σ' H' q R' _ => k1 _ _ _ q R'⟩⟩
theorem psd_set {i : Nat} {x : Str} {px : Pos} (hN : X.N.Nodup) (ha : PE X a (lift c wa)) (hi : X.N[i]? = some x := by rfl) (hx : Loc X.env.scope x := by first | exact Or.inl rfl | exact Or.inr rfl) (hs : swapsWith a (some (.Name x px)) pos.line X.env = pure false := by rfl)
    (hf : X.fn x = true ∨ X.env.scope.names.lookup x = some .local := by first | exact .inl rfl | exact .inr rfl) : PS X (.Assign [.Name x px] a pos) (liftS c (wAsg wa (stN i))) :=
  (ps_set hN hi hx ha hs hf).imp fun E σ H ⟨Γ, T, Ed, hR, hw, k1, k2⟩ => ⟨Γ, T, _, hR, hw, fun r Γ1 v H1 q1 R1 => by
    obtain ⟨Γ', q, R'⟩ := R1.store q1
    exact k1 _ _ _ q R'⟩
/-- a, b = x, y: both are kept as they come -/
def wPar (i j : Nat) (wa wb : W) : WS := fun E Γ => wa Γ fun r1 Γ1 => wb Γ1 fun r2 Γ2 => stN j r2 Γ2 fun Γ3 => stN i r1 Γ3 E.nx
theorem psd_par {i j : Nat} {x y : Str} {px py pt : Pos} {kt k2 pt2} (hc : X.calm = true) (hN : X.N.Nodup) (ha : PE X a (lift c wa)) (hb : PE X b (lift c wb)) (hij : i ≠ j := by decide) (hi : X.N[i]? = some x := by rfl) (hj : X.N[j]? = some y := by rfl)
    (hx : X.env.scope.names.lookup x = some .local := by rfl) (hy : X.env.scope.names.lookup y = some .local := by rfl) (hw : swappedStores [.Tuple [.Name x px, .Name y py] kt pt] (.Tuple [a, b] k2 pt2) X.env = pure (some [x, y]) := by rfl)
    (hs : swapsWithSole [.Tuple [.Name x px, .Name y py] kt pt] (.Tuple [a, b] k2 pt2) pos.line X.env = pure false := by rfl) (hs1 : starEach [a, b] X.env = (false, eval a X.env) :: starEach [b] X.env := by rfl) (hs2 : starEach [b] X.env = (false, eval b X.env) :: starEach [] X.env := by rfl) :
    PS X (.Assign [.Tuple [.Name x px, .Name y py] kt pt] (.Tuple [a, b] k2 pt2) pos) (liftS c (wPar i j wa wb)) :=
  (ps_par hc hN hi hj hij hx hy (pa_cons ha (pa_cons hb pa_nil hs2) hs1) hw hs).imp fun E σ H ⟨Γ, T, Ed, hR, hw, k1, k2⟩ => by
    refine ⟨Γ, T, _, hR, hw, fun r1 Γ1 v H1 q1 R1 => ⟨Γ1, _, _, R1, q1, fun r2 Γ2 w H2 q2 R2 => ⟨v, w, rfl, ?_⟩⟩⟩
    obtain ⟨Γ3, q3, R3⟩ := R2.store q2
    obtain ⟨Γ4, q4, R4⟩ := R3.store q3
    rw [List.set_comm _ _ hij]
    exact k1 _ _ _ q4 R4
/-- name op= e -/
def wAug (g : BOp) (i : Nat) (wa : W) : WS := fun E Γ => match nth Γ i with
  | some (.dat d) => wa Γ fun r Γ1 => peek Γ1 r fun e => g d e fun r2 => stN i r2 Γ1 E.nx
  | _ => False
structure IpOk (X : Cx) (c : Cn) (op : Operator) (g : BOp) : Prop where
  ex : ∃ rr, PIp X op rr ∧ ∀ F H L x y d e Qd Q, Good c F H L → RdD c.K F H d x → RdD c.K F H e y → g d e Qd → (∀ r v H' F', Qd r → Good c F' H' ((r, v) :: L) → Q v H') → rr x y H Q
def gAddI : BOp
  | .int i, .int j, k => k (.dat (.int (i + j)))
  | _, _, _ => False
theorem ip_addOk : IpOk X c .Add gAddI := ⟨⟨_, ip_add, fun F H L x y d e Qd Q G rd re q k => by
  unfold gAddI at q
  split at q
  · exact ⟨_, _, rd, re, k _ _ _ _ q (G.also (r := .dat (.int _)) rfl rfl)⟩
  · exact q.elim⟩⟩
theorem ip_subOk : IpOk X c .Sub gSub := ⟨⟨_, ip_sub, fun F H L x y d e Qd Q G rd re q k => by
  unfold gSub at q
  split at q
  · exact ⟨_, _, rd, re, k _ _ _ _ q (G.also (r := .dat (.int _)) rfl rfl)⟩
  · exact q.elim⟩⟩
theorem psd_aug {i : Nat} {x : Str} {px : Pos} {op : Operator} {g : BOp} (hN : X.N.Nodup) (ho : IpOk X c op g) (ha : PE X a (lift c wa)) (hi : X.N[i]? = some x := by rfl) (hx : Loc X.env.scope x := by first | exact Or.inl rfl | exact Or.inr rfl)
    (hf : X.fn x = true ∨ X.env.scope.names.lookup x = some .local := by first | exact .inl rfl | exact .inr rfl) : PS X (.AugAssign (.Name x px) op a pos) (liftS c (wAug g i wa)) := by
  obtain ⟨rr, h1, h2⟩ := ho.ex
  refine (ps_aug hN hi hx ha h1 hf).imp fun E σ H ⟨Γ, T, Ed, hR, hw, k1, k2⟩ => ?_
  unfold wAug at hw
  split at hw
  · rename_i d hd
    obtain ⟨F, E', he, G⟩ := hR
    obtain ⟨v, E1, E2, z1, rfl, _, _⟩ := he.at (nth_some hd)
    have rd : RepD c.K F d v := G.rep (.dat d, v) (by simp)
    have hR' : Rel c σ H Γ ((.dat d, v) :: T) := ⟨F, _, he, (G.also (r := .dat d) rd rfl).perm (front _ _ _).symm⟩
    refine ⟨v, z1, Γ, _, _, hR', hw, fun r Γ1 w H1 q1 R1 => ?_⟩
    obtain ⟨F1, E', he1, G1⟩ := R1
    obtain ⟨e, q, re⟩ := G1.peek (r := r) (v := w) he1 (fun z hz => List.mem_append_left _ hz) (by simp) q1
    refine h2 F1 H1 _ v w d e _ _ G1 (RdD.of G1.sub (G1.rep (.dat d, v) (by simp))) re q fun r2 v2 H2 F2 hq G2 => ?_
    have R2 : Rel c σ H2 Γ1 ((r2, v2) :: T) := ⟨F2, E', he1, (G2.perm (front _ _ _).symm).less ((List.Sublist.refl _).append (.cons₂ _ (.cons _ (.cons _ (List.Sublist.refl _)))))⟩
    obtain ⟨Γ3, q3, R3⟩ := R2.store hq
    exact k1 _ _ _ q3 R3
  · exact hw.elim
/-! ### what is walked -/
abbrev WI := Gm → (List D → (Gm → Prop) → Gm → Prop) → Prop
def ItD (c : Cn) (J : It) (items : List D) (gd : Gm → Prop) (src : Ls) : Prop := ∀ i σ H Γ T, Rel c σ H Γ (src ++ T) → gd Γ →
  (items.length ≤ i → J.stop i H) ∧ ∀ d, items[i]? = some d → J.go i H ∧ ∀ x H', J.yld i H x H' → Rel c σ H' Γ ((.dat d, x) :: (src ++ T))
def liftI (c : Cn) (wi : WI) : TI := fun σ H Q => ∃ Γ T Qd, Rel c σ H Γ T ∧ wi Γ Qd ∧ ∀ items gd Γ' J H' src, Qd items gd Γ' → Rel c σ H' Γ' (src ++ T) → ItD c J items gd src → Q J H'
theorem _root_.L2.PI.imp {t t' : TI} {tg x : Expr} (h : PI X tg x t) (f : ∀ σ H Q, t' σ H Q → t σ H Q) : PI X tg x t' := ⟨fun pins s σ H Q I q => h.run pins s σ H Q I (f σ H Q q)⟩
def wLoop (gd : Gm → Prop) (g : WG) (wb : WS) : List D → SE → Gm → Prop
  | [], E, Γ => gd Γ ∧ E.nx Γ
  | d :: ds, E, Γ => gd Γ ∧ g (.dat d) Γ fun Γ1 => wb { E with nx := fun Γ2 => wLoop gd g wb ds E Γ2 } Γ1
def wFor (wi : WI) (g : WG) (wb : WS) : WS := fun E Γ => wi Γ fun items gd Γ1 => wLoop gd g wb items E Γ1
theorem wLoop.gd {gd : Gm → Prop} {g : WG} {wb : WS} {l : List D} {E : SE} (h : wLoop gd g wb l E Γ) : gd Γ := by
  cases l with
  | nil => exact h.1
  | cons d l => exact h.1
theorem drop_at {α : Type} {l : List α} {i : Nat} {d : α} (h : l[i]? = some d) : l.drop i = d :: l.drop (i + 1) := by
  obtain ⟨h1, h2⟩ := List.getElem?_eq_some_iff.mp h
  rw [List.drop_eq_getElem_cons h1, h2]
theorem psd_for {tg : List Nat} {x iter : Expr} {body : List Stmt} {wi : WI} {g : WG} {wb : WS} (hp : PassesOwn (model X.prog X.w) X.A X.env X.xe) (hc : X.calm = true) (hi : PI X x iter (liftI c wi)) (hg : PG X x (liftG c tg g)) (hb : PSs X body (liftS c wb))
    (hs : ∀ x, foldedSetIterable iter X.env x = pure x := by intro _; rfl) : PS X (.For x iter body [] pos) (liftS c (wFor wi g wb)) := by
  refine (ps_for hp hc hi hg hb hs).imp fun E σ H ⟨Γ, T, Ed, hR, hw, k1, k2⟩ => ⟨Γ, T, _, hR, hw, fun items gd Γ1 J H1 src q1 R1 hJ => ?_⟩
  refine ⟨fun i m σ H => m = items.length - i ∧ i ≤ items.length ∧ ∃ Γ, Rel c σ H Γ (src ++ T) ∧ wLoop gd g wb (items.drop i) Ed Γ, ⟨_, rfl, Nat.zero_le _, Γ1, R1, q1⟩, ?_⟩
  rintro i m σ2 H2 ⟨rfl, hi, Γ2, R2, q2⟩
  obtain ⟨js, jg⟩ := hJ i σ2 H2 Γ2 T R2 q2.gd
  by_cases hlt : i < items.length
  · have hd : items[i]? = some items[i] := List.getElem?_eq_getElem hlt
    obtain ⟨j1, j2⟩ := jg _ hd
    rw [drop_at hd] at q2
    refine .inr ⟨j1, fun σ3 H3 => ∃ Γ, Rel c σ3 H3 Γ (src ++ T) ∧ wLoop gd g wb (items.drop (i + 1)) Ed Γ, fun σ3 H3 h3 => ⟨_, by omega, rfl, hlt, h3⟩, fun v H3 hv => ?_⟩
    refine ⟨_, Γ2, _, _, j2 v H3 hv, q2.2, fun Γ3 σ4 H4 q3 R3 _ => ?_⟩
    exact ⟨Γ3, _, _, R3, q3, fun Γ4 σ5 H5 q4 R4 => ⟨Γ4, R4, q4⟩, fun r Γ4 v σ5 H5 q4 R4 => k2 _ _ _ _ _ q4 (R4.less ((List.sublist_append_right _ _).cons₂ _))⟩
  · have e : items.drop i = [] := List.drop_eq_nil_iff.mpr (by omega)
    rw [e] at q2
    exact .inl ⟨js (by omega), k1 _ _ _ q2.2 (R2.less (List.sublist_append_right _ _))⟩
/-! ### while -/
def wWhileN (tc : WT) (wb : WS) : Nat → SE → Gm → Prop
  | 0, E, Γ => tc Γ fun b Γ1 => match b with
    | true => False
    | false => E.nx Γ1
  | n + 1, E, Γ => tc Γ fun b Γ1 => match b with
    | true => wb { E with nx := fun Γ2 => wWhileN tc wb n E Γ2 } Γ1
    | false => E.nx Γ1
def wWhile (tc : WT) (wb : WS) : WS := fun E Γ => ∃ n, wWhileN tc wb n E Γ
theorem psd_while {tst : Expr} {body : List Stmt} {wb : WS} (hp : PassesOwn (model X.prog X.w) X.A X.env X.xe) (hc : PT X tst (liftT c ta)) (hb : PSs X body (liftS c wb)) : PS X (.While tst body [] pos) (liftS c (wWhile ta wb)) := by
  refine (ps_while hp hc hb).imp fun E σ H ⟨Γ, T, Ed, hR, ⟨n, hw⟩, k1, k2⟩ => ?_
  refine ⟨fun m σ H => ∃ Γ, Rel c σ H Γ T ∧ wWhileN ta wb m Ed Γ, ⟨n, Γ, hR, hw⟩, ?_⟩
  rintro m σ2 H2 ⟨Γ2, R2, q2⟩
  cases m with
  | zero =>
    refine ⟨Γ2, T, _, R2, q2, fun b Γ3 H3 q3 R3 => ?_⟩
    cases b with
    | true => exact False.elim q3
    | false =>
      rw [if_neg Bool.false_ne_true]
      exact k1 _ _ _ q3 R3
  | succ m =>
    refine ⟨Γ2, T, _, R2, q2, fun b Γ3 H3 q3 R3 => ?_⟩
    cases b with
    | true =>
      rw [if_pos rfl]
      exact ⟨fun σ4 H4 => ∃ Γ, Rel c σ4 H4 Γ T ∧ wWhileN ta wb m Ed Γ, fun σ4 H4 h4 => ⟨m, Nat.lt_succ_self m, h4⟩, Γ3, T, _, R3, q3, fun Γ4 σ5 H5 q4 R4 => ⟨Γ4, R4, q4⟩, fun r Γ4 v σ5 H5 q4 R4 => k2 _ _ _ _ _ q4 R4⟩
    | false =>
      rw [if_neg Bool.false_ne_true]
      exact k1 _ _ _ q3 R3
end
end Dl
/-! ## iterables, comprehensions -/
namespace Dl
open PySem PySem.Spec PyProof.Rows
open L2
section
variable {X : Cx} {c : Cn} {e a b tg : Expr} {σ : L2.St} {H : Hp} {Γ : Gm} {T : Ls} {wa wb wc : W} {pos : Pos} {ta tb : WT}
/-! ### a list or a tuple -/
def iSeq (K : PySem.W.Frag) (tl : TE) : TI := fun σ H Q => tl σ H fun x H1 => ∃ a, x = .ref a ∧ (((∃ xs, SqL K H1 a xs) ∧ Q (Itl K a) H1) ∨ ((∃ xs, SqT K H1 a xs) ∧ Q (Itt K a) H1))
theorem pi_seq {l : Expr} {tl : TE} (hl : PE X l tl) : PI X tg l (iSeq X.K tl) := by
  refine ⟨fun pins s σ H Q I h => thn (hl.run pins s σ H _ I h) fun v s1 ⟨x, H1, I1, r1, ad, ex, q1⟩ => ?_⟩
  cases ex
  cases r1
  have fresh : ∀ z ∈ [s1.heap.objs.size], FpOk X pins H1 z := fun z hz => by
    cases (show z = s1.heap.objs.size by simpa using hz)
    exact I1.fpOk (Nat.le_refl _) (I1.hok.fresh (Nat.le_refl _))
  have kept : ∀ ob : Obj, Inv X pins σ H1 { s1 with heap := s1.heap.push ob } := fun ob => I1.kept (t' := s1.toks) fun z o hz => Heap.get?_push_of_some _ hz
  rcases q1 with ⟨⟨xs, hq⟩, q⟩ | ⟨⟨xs, hq⟩, q⟩
  · obtain ⟨its, _, p, _⟩ := I1.list hq
    exact wpAny_pyIter_list p.isList ⟨_, _, _, _, H1, rfl, kept _, turn_list ad _, ⟨_, Heap.get?_push_size _ rfl, rfl, rfl⟩, fresh, q⟩
  · obtain ⟨its, _, p, _⟩ := I1.tuple hq
    exact wpAny_pyIter_tuple (show s1.heap.IsTuple ad its.toArray from p) ⟨_, _, _, _, H1, rfl, kept _, turn_tuple ad _, ⟨_, Heap.get?_push_size _ rfl, rfl, rfl⟩, fresh, q⟩
def wiSeq (wa : W) : WI := fun Γ Q => wa Γ fun r Γ1 => match r with
  | .dat (.lst l) => Q l (fun _ => True) Γ1
  | .dat (.tup l) => Q l (fun _ => True) Γ1
  | .lst false _ l => Q l (fun _ => True) Γ1
  | .adr i a => match nth Γ1 i with
    | some (.lst p b l) => b = a ∧ Q l (fun Γ => nth Γ i = some (.lst p a l)) Γ1
    | _ => False
  | _ => False
theorem Rel.dat {d : D} {x : V} (h : Rel c σ H Γ T) (f : ∀ F, Same F H → (∀ e ∈ T, RepR c F H e.1 e.2) → RepD c.K F d x) : Rel c σ H Γ ((.dat d, x) :: T) := by
  obtain ⟨F, E, he, G⟩ := h
  exact ⟨F, E, he, (G.also (r := .dat d) (f F G.sub fun e hm => G.rep e (List.mem_append_right _ hm)) rfl).perm (front _ _ _).symm⟩
theorem pid_seq (ha : PE X a (lift c wa)) (hK : X.K = c.K := by rfl) : PI X tg a (liftI c (wiSeq wa)) := by
  refine (pi_seq ha).imp fun σ H Q ⟨Γ, T, Qd, hR, hw, k⟩ => ⟨Γ, T, _, hR, hw, fun r Γ1 v H1 q1 R1 => ?_⟩
  -- the three kinds of sources
  have lstGo : ∀ (l : List D) (a : Addr) (gd : Gm → Prop) (src : Ls), (∀ σ H Γ T, Rel c σ H Γ (src ++ T) → gd Γ → ∃ F xs, Same F H ∧ H a = some (.lst xs) ∧ RepL c.K F l xs ∧ (∀ d x, RepD c.K F d x → Rel c σ H Γ ((.dat d, x) :: (src ++ T)))) → ItD c (Itl X.K a) l gd src := fun l a gd src hs i σ H Γ T R g => by
    obtain ⟨F, xs, s, hx, rl, fin⟩ := hs σ H Γ T R g
    refine ⟨fun hi => ⟨xs, SqL.of hx, by rw [rl.length]; exact hi⟩, fun d hd => ?_⟩
    obtain ⟨x, h1, h2⟩ := rl.get hd
    refine ⟨⟨xs, x, SqL.of hx, h1⟩, fun y H' ⟨e, hy⟩ => ?_⟩
    subst e
    have := hy xs (SqL.of hx)
    rw [h1] at this
    cases this
    exact fin d x h2
  split at q1
  · rename_i l
    have q := R1
    obtain ⟨F, E, he, G⟩ := q
    obtain ⟨a, xs, rfl, f, r⟩ : RepD c.K F (.lst l) v := G.rep (.dat (.lst l), v) (by simp)
    refine ⟨a, rfl, .inl ⟨⟨xs, SqL.of (G.sub _ _ f)⟩, k _ _ _ _ _ [(.dat (.lst l), .ref a)] q1 R1 ?_⟩⟩
    refine lstGo _ _ _ _ fun σ H Γ T R _ => ?_
    have q := R
    obtain ⟨F, E, he, G⟩ := q
    obtain ⟨a', xs, e1, f, r⟩ : RepD c.K F (.lst l) (.ref a) := G.rep (.dat (.lst l), .ref a) (by simp)
    cases e1
    exact ⟨F, xs, G.sub, G.sub _ _ f, r, fun d x hx => ⟨F, E, he, (G.also (r := .dat d) hx rfl).perm (front _ _ _).symm⟩⟩
  · rename_i l
    have q := R1
    obtain ⟨F, E, he, G⟩ := q
    obtain ⟨a, xs, rfl, f, r⟩ : RepD c.K F (.tup l) v := G.rep (.dat (.tup l), v) (by simp)
    refine ⟨a, rfl, .inr ⟨⟨xs, SqT.of (G.sub _ _ f)⟩, k _ _ _ _ _ [(.dat (.tup l), .ref a)] q1 R1 fun i σ H Γ T R _ => ?_⟩⟩
    have q := R
    obtain ⟨F, E, he, G⟩ := q
    obtain ⟨a', xs, e1, f, r⟩ : RepD c.K F (.tup l) (.ref a) := G.rep (.dat (.tup l), .ref a) (by simp)
    cases e1
    have hx := SqT.of (K := X.K) (G.sub _ _ f)
    refine ⟨fun hi => ⟨xs, hx, by rw [r.length]; exact hi⟩, fun d hd => ?_⟩
    obtain ⟨x, h1, h2⟩ := r.get hd
    refine ⟨⟨xs, x, hx, h1⟩, fun y H' ⟨e, hy⟩ => ?_⟩
    subst e
    have := hy xs hx
    rw [h1] at this
    cases this
    exact ⟨F, E, he, (G.also (r := .dat d) h2 rfl).perm (front _ _ _).symm⟩
  · rename_i ad l
    have q := R1
    obtain ⟨F, E, he, G⟩ := q
    obtain ⟨e1, _, _, xs, hx, r⟩ := G.rep (.lst false ad l, v) (by simp)
    have e1 : v = .ref ad := e1
    subst e1
    refine ⟨ad, rfl, .inl ⟨⟨xs, SqL.of hx⟩, k _ _ _ _ _ [(.lst false ad l, .ref ad)] q1 R1 ?_⟩⟩
    refine lstGo _ _ _ _ fun σ H Γ T R _ => ?_
    have q := R
    obtain ⟨F, E, he, G⟩ := q
    obtain ⟨_, _, _, xs, hx, r⟩ := G.rep (.lst false ad l, .ref ad) (by simp)
    exact ⟨F, xs, G.sub, hx, r, fun d x hx => ⟨F, E, he, (G.also (r := .dat d) hx rfl).perm (front _ _ _).symm⟩⟩
  · rename_i i ad
    split at q1
    · rename_i p b l hb
      obtain ⟨rfl, q1⟩ := q1
      have look : ∀ {σ : L2.St} {H : Hp} {Γ : Gm} {T : Ls}, Rel c σ H Γ T → nth Γ i = some (.lst p b l) → ∃ F xs, Same F H ∧ H b = some (.lst xs) ∧ RepL c.K F l xs ∧ (∀ d x, RepD c.K F d x → Rel c σ H Γ ((.dat d, x) :: T)) := fun {σ H Γ T} R g => by
        obtain ⟨F, E, he, G⟩ := R
        obtain ⟨w, E1, E2, h1, rfl, h3, _⟩ := he.at (nth_some g)
        obtain ⟨_, _, _, xs, hx, r⟩ := G.rep (.lst p b l, w) (by simp)
        exact ⟨F, xs, G.sub, hx, r, fun d x hx => ⟨F, _, he, (G.also (r := .dat d) hx rfl).perm (front _ _ _).symm⟩⟩
      have e1 : v = .ref b := by
        obtain ⟨F, E, he, G⟩ := R1
        exact G.rep (.adr i b, v) (by simp)
      subst e1
      obtain ⟨F, xs, _, hx, _, _⟩ := look R1 hb
      refine ⟨b, rfl, .inl ⟨⟨xs, SqL.of hx⟩, k _ _ _ _ _ [] q1 (R1.tail) ?_⟩⟩
      exact lstGo _ _ _ _ fun σ H Γ T R g => look R g
    · exact q1.elim
  · exact q1.elim
/-! ### ranges -/
def rngL (lo : Int) (n : Nat) : List D := (List.range n).map fun (i : Nat) => D.int (lo + i)
def wiR1 (t : WA) : WI := fun Γ Q => t Γ fun rs Γ1 => match rs with
  | [.dat (.int j)] => (-1000000000000000000 ≤ j ∧ j ≤ 1000000000000000000) ∧ Q (rngL 0 j.toNat) (fun _ => True) Γ1
  | _ => False
def wiR2 (t : WA) : WI := fun Γ Q => t Γ fun rs Γ1 => match rs with
  | [.dat (.int i), .dat (.int j)] => (-1000000000000000000 ≤ i ∧ i ≤ 1000000000000000000 ∧ -1000000000000000000 ≤ j ∧ j ≤ 1000000000000000000) ∧ Q (rngL i (j - i).toNat) (fun _ => True) Γ1
  | _ => False
theorem itd_range {lo : Int} {n : Nat} {gd : Gm → Prop} : ItD c (Itr lo n) (rngL lo n) gd [] := fun i σ H Γ T R _ => by
  refine ⟨fun hi => show n ≤ i by simpa [rngL] using hi, fun d hd => ?_⟩
  unfold rngL at hd
  rw [List.getElem?_map] at hd
  cases q : (List.range n)[i]? with
  | none => rw [q] at hd; cases hd
  | some m =>
    rw [q] at hd
    obtain ⟨h1, h2⟩ := List.getElem?_eq_some_iff.mp q
    rw [List.getElem_range] at h2
    subst h2
    cases (Option.some.inj hd).symm
    refine ⟨show i < n by simpa using h1, fun x H' ⟨e1, e2⟩ => ?_⟩
    subst e1
    subst e2
    exact R.const (d := .int (lo + i)) fun _ _ => rfl
theorem pid_range1 {t : WA} {p : Pos} (hm : X.mg "range" = none) (ha : PA X [a] (liftA c t)) (hg : Gl X "range" := by rfl) (hs : starEach [a] X.env = [(false, eval a X.env)] := by rfl) : PI X tg (.Call (.Name "range" p) [a] [] pos) (liftI c (wiR1 t)) := by
  refine (pi_range1 hg hm ha hs).imp fun σ H Q ⟨Γ, T, Qd, hR, hw, k⟩ => ⟨Γ, T, _, hR, hw, fun rs Γ1 vs H1 q1 hl R1 => ?_⟩
  split at q1
  · rename_i j
    obtain ⟨v, rfl⟩ : ∃ v, vs = [v] := List.length_eq_one_iff.mp hl.symm
    have e1 : v = .int j := Rel.int R1
    exact ⟨j, by rw [e1], by omega, by omega, k _ _ _ _ _ [] q1.2 (R1.tail) itd_range⟩
  · exact q1.elim
theorem pid_range2 {t : WA} {p : Pos} (hm : X.mg "range" = none) (ha : PA X [a, b] (liftA c t)) (hg : Gl X "range" := by rfl) (hs : starEach [a, b] X.env = [(false, eval a X.env), (false, eval b X.env)] := by rfl) (hs2 : starEach [b] X.env = [(false, eval b X.env)] := by rfl) :
    PI X tg (.Call (.Name "range" p) [a, b] [] pos) (liftI c (wiR2 t)) := by
  refine (pi_range2 hg hm ha hs hs2).imp fun σ H Q ⟨Γ, T, Qd, hR, hw, k⟩ => ⟨Γ, T, _, hR, hw, fun rs Γ1 vs H1 q1 hl R1 => ?_⟩
  split at q1
  · rename_i i j
    obtain ⟨v, w, rfl⟩ : ∃ v w, vs = [v, w] := by
      match vs, hl with
      | [v, w], _ => exact ⟨v, w, rfl⟩
    have e1 : v = .int i := Rel.int R1
    have e2 : w = .int j := Rel.int R1.tail
    exact ⟨i, j, by rw [e1, e2], ⟨by omega, by omega, by omega, by omega⟩, k _ _ _ _ _ [] q1.2 (R1.tail.tail) itd_range⟩
  · exact q1.elim
/-! ### list comprehensions -/
def wipeG (Γ : Gm) : List Nat → Gm
  | [] => Γ
  | v :: vs => (wipeG Γ vs).set v none
theorem Ents.unwipe : ∀ {Γ : Gm} {σ σ' : L2.St} {E : Ls}, Ents Γ σ E → σ'.length = σ.length → (∀ (j : Nat) (x : V), σ[j]? = some (some x) → σ'[j]? = some (some x)) → Ents Γ σ' E
  | _, _, [], _, .nil, _, _ => .nil
  | _, _, _ :: _, _, .nil, h, _ => by simp at h
  | _, _, [], _, .one _, h, _ => by simp at h
  | _, _, [], _, .skip _, h, _ => by simp at h
  | _, _, y :: σ', _, .one (v := v) q, h, f => by
    have z := f 0 v rfl
    have z : y = some v := Option.some.inj z
    subst z
    exact .one (q.unwipe (by simpa using h) fun j x hx => by simpa using f (j + 1) x (by simpa using hx))
  | _, _, y :: σ', _, .skip q, h, f => .skip (q.unwipe (by simpa using h) fun j x hx => by simpa using f (j + 1) x (by simpa using hx))
theorem Ents.wipe : ∀ (vs : List Nat) {Γ : Gm} {σ : L2.St} {E : Ls}, Ents Γ σ E → ∃ E', E'.Sublist E ∧ Ents (wipeG Γ vs) (wipe σ vs) E'
  | [], _, _, E, h => ⟨E, List.Sublist.refl _, h⟩
  | v :: vs, _, _, E, h => by
    obtain ⟨E1, h1, h2⟩ := h.wipe vs
    obtain ⟨E2, h3, h4⟩ := h2.drop (i := v)
    exact ⟨E2, h3.trans h1, h4 none⟩
theorem Rel.wipe (vs : List Nat) (h : Rel c σ H Γ T) : Rel c (wipe σ vs) H (wipeG Γ vs) T := by
  obtain ⟨F, E, he, G⟩ := h
  obtain ⟨E', h1, h2⟩ := he.wipe vs
  exact ⟨F, E', h2, G.less (h1.append (List.Sublist.refl _))⟩
theorem Rel.unwipe {vs : List Nat} (h : Rel c (L2.wipe σ vs) H Γ T) : Rel c σ H Γ T := by
  obtain ⟨F, E, he, G⟩ := h
  exact ⟨F, E, he.unwipe (wipe_length σ vs).symm fun j x hx => (wipe_some hx).1, G⟩
theorem wipe_wipe (vs : List Nat) (σ : L2.St) : wipe (wipe σ vs) vs = wipe σ vs := by
  refine List.ext_getElem? fun j => ?_
  rw [wipe_get, wipe_length, wipe_get]
  by_cases hj : j ∈ vs ∧ j < σ.length
  · rw [if_pos hj, if_pos hj]
  · rw [if_neg hj, if_neg hj]
def wYes : WT := fun Γ Q => Q true Γ
theorem ptsd_nil : PTs X [] (liftT c wYes) := ⟨fun pins s σ H Q I ⟨Γ, T, Qd, hR, hw, k⟩ => pts_nil.run pins s σ H Q I (k _ _ _ hw hR)⟩
theorem ptsd_one (h : PT X a (liftT c ta)) : PTs X [a] (liftT c ta) := pts_one h
def lcLoop (vs : List Nat) (gd : Gm → Prop) (g : WG) (wt : WT) (we : W) : List D → List D → Gm → (List D → Gm → Prop) → Prop
  | [], acc, Γ, k => gd Γ ∧ k acc Γ
  | d :: ds, acc, Γ, k => gd Γ ∧ g (.dat d) Γ fun Γ1 => wt Γ1 fun t Γ2 => match t with
    | true => we Γ2 fun r Γ3 => take r Γ3 fun e Γ4 => acc.length < 1000000 ∧ lcLoop vs gd g wt we ds (acc ++ [e]) (wipeG Γ4 vs) k
    | false => lcLoop vs gd g wt we ds acc (wipeG Γ2 vs) k
def wLc (vs : List Nat) (wi : WI) (g : WG) (wt : WT) (we : W) : W := fun Γ Q => wi Γ fun items gd Γ1 => lcLoop vs gd g wt we items [] (wipeG Γ1 vs) fun acc Γ2 => ∀ a, Q (.lst false a acc) Γ2
theorem lcLoop.gd {vs : List Nat} {gd : Gm → Prop} {g : WG} {wt : WT} {we : W} {l acc : List D} {k : List D → Gm → Prop} (h : lcLoop vs gd g wt we l acc Γ k) : gd Γ := by
  cases l with
  | nil => exact h.1
  | cons d l => exact h.1
theorem lc_end {vs : List Nat} {tgs : List Nat} (hv : ∀ i ∈ tgs, i ∈ vs) {wi : WI} {g : WG} {wt : WT} {we : W} {Q : VK} (q : lift c (wLc vs wi g wt we) σ H Q) : tLc (liftI c wi) (liftG c tgs g) (liftT c wt) (lift c we) vs σ H Q := by
  obtain ⟨Γ, T, Qd, hR, hw, k⟩ := q
  refine ⟨Γ, T, _, hR, hw, fun items gd Γ1 J H1 src q1 R1 hJ D hD => ?_⟩
  have R2 : Rel c (wipe σ vs) (upd H1 D (.lst [])) (wipeG Γ1 vs) ((.lst false D [], .ref D) :: (src ++ T)) := by
    obtain ⟨F, E, he, G⟩ := R1.wipe vs
    exact ⟨F, E, he, (G.newOwn (l := []) (xs := []) hD rfl).perm (front _ _ _).symm⟩
  refine ⟨fun i m H => m = items.length - i ∧ i ≤ items.length ∧ ∃ Γ acc, Rel c (wipe σ vs) H Γ ((.lst false D acc, .ref D) :: (src ++ T)) ∧ lcLoop vs gd g wt we (items.drop i) acc Γ fun acc Γ2 => ∀ a, Qd (.lst false a acc) Γ2, ⟨_, rfl, Nat.zero_le _, _, [], R2, q1⟩, ?_⟩
  rintro i m H2 ⟨rfl, hi, Γ2, acc, R2, q2⟩
  have R3 : Rel c (wipe σ vs) H2 Γ2 (src ++ ((.lst false D acc, .ref D) :: T)) := R2.perm (front _ _ _).symm
  obtain ⟨js, jg⟩ := hJ i _ H2 Γ2 _ R3 q2.gd
  by_cases hlt : i < items.length
  · have hd : items[i]? = some items[i] := List.getElem?_eq_getElem hlt
    obtain ⟨j1, j2⟩ := jg _ hd
    rw [drop_at hd] at q2
    refine .inr ⟨j1, fun H3 => ∃ Γ acc, Rel c (wipe σ vs) H3 Γ ((.lst false D acc, .ref D) :: (src ++ T)) ∧ lcLoop vs gd g wt we (items.drop (i + 1)) acc Γ fun acc Γ2 => ∀ a, Qd (.lst false a acc) Γ2, fun H3 h3 => ⟨_, by omega, rfl, hlt, h3⟩, fun v H3 hy => ?_⟩
    refine ⟨_, Γ2, _, _, j2 v H3 hy, q2.2, fun Γ3 σ4 H4 q3 R4 sb => ?_⟩
    have hw4 : wipe σ4 vs = wipe σ vs := by rw [sb.wipe hv, wipe_wipe]
    refine ⟨hw4, Γ3, _, _, R4, q3, fun t Γ4 H5 q4 R5 => ?_⟩
    cases t with
    | true =>
      rw [if_pos rfl]
      refine ⟨Γ4, _, _, R5, q4, fun r Γ5 y H6 q5 R6 => ?_⟩
      obtain ⟨e, Γ6, ⟨hz, q6⟩, R7⟩ := R6.take q5
      have R8 := R7.wipe vs
      rw [hw4] at R8
      obtain ⟨F, E, he, G⟩ := R8
      have G1 : Good c F H6 ((.lst false D acc, .ref D) :: (E ++ ((.dat e, y) :: (src ++ T)))) := G.perm (by
        refine List.Perm.trans ?_ (front E _ _)
        exact List.Perm.append_left E ((List.Perm.cons _ (front src T _)).trans (List.Perm.swap _ _ _)))
      obtain ⟨e1, hF, h0, xs, hx, rl⟩ := G1.rep _ List.mem_cons_self
      have ry : RepD c.K F e y := G1.rep (.dat e, y) (by simp)
      refine ⟨xs, hx, by rw [rl.length]; exact lineL hz, wipeG Γ6 vs, acc ++ [e], ⟨F, E, he, ?_⟩, q6⟩
      have G2 : Good c F (upd H6 D (.lst (xs ++ [y]))) ((.lst false D (acc ++ [e]), .ref D) :: (E ++ ((.dat e, y) :: (src ++ T)))) := G1.turn rfl rfl (p := false) h0 ⟨e1, hF, h0, _, upd_same, rl.append (.one ry)⟩
      exact ((G2.less (((List.Sublist.refl E).append (List.sublist_cons_self _ _)).cons₂ _))).perm (front _ _ _).symm
    | false =>
      rw [if_neg Bool.false_ne_true]
      have R8 := R5.wipe vs
      rw [hw4] at R8
      exact ⟨_, acc, R8.perm (front _ _ _), q4⟩
  · have e : items.drop i = [] := List.drop_eq_nil_iff.mpr (by omega)
    rw [e] at q2
    refine .inl ⟨js (by omega), k _ _ _ _ (q2.2 D) (R2.unwipe.less ((List.sublist_append_right _ _).cons₂ _))⟩
theorem pd_lc {elt iter : Expr} {ifs : List Expr} {scope : Scope} {own : List (Str × Nat)} {tgs : List Nat} {wi : WI} {g : WG} {wt : WT} {we : W} (hc : X.calm = true) (hN : X.N.Nodup) (hi : PI X tg iter (liftI c wi)) (ok : blkC X.N X.env.scope scope own = true) (hv : ∀ i ∈ tgs, i ∈ own.map (·.2))
    (hg : ∀ (s : Shared) (H : Hp) (C : Addr) (cl : List (Str × Addr)) (fp : List Addr), PG (X.blk s H scope (compEnvC scope cl C X.env) fp) tg (liftG c tgs g)) (ht : ∀ (s : Shared) (H : Hp) (C : Addr) (cl : List (Str × Addr)) (fp : List Addr), PTs (X.blk s H scope (compEnvC scope cl C X.env) fp) ifs (liftT c wt))
    (he : ∀ (s : Shared) (H : Hp) (C : Addr) (cl : List (Str × Addr)) (fp : List Addr), PE (X.blk s H scope (compEnvC scope cl C X.env) fp) elt (lift c we)) (hs : ∀ x, foldedSetIterable iter X.env x = pure x := by intro _; rfl) :
    PE X (.ListComp elt [⟨tg, iter, ifs, 0⟩] scope pos) (lift c (wLc (own.map (·.2)) wi g wt we)) :=
  (pe_lc hc hN hi (blkOk_by ok) hg ht he hs).imp fun σ H Q q => lc_end hv q
theorem psd_setLc {i : Nat} {y : Str} {py spos : Pos} {elt iter : Expr} {ifs : List Expr} {scope : Scope} {own : List (Str × Nat)} {tgs : List Nat} {wi : WI} {g : WG} {wt : WT} {we : W} (hc : X.calm = true) (hN : X.N.Nodup)
    (hsw : swapsWith (.ListComp elt [⟨tg, iter, ifs, 0⟩] scope pos) (some (.Name y py)) spos.line X.env = pure true) (hi : PI X tg iter (liftI c wi)) (ok : blkC X.N X.env.scope scope own = true) (hv : ∀ i ∈ tgs, i ∈ own.map (·.2))
    (hg : ∀ (s : Shared) (H : Hp) (C : Addr) (cl : List (Str × Addr)) (fp : List Addr), PG (X.blk s H scope (compEnvC scope cl C X.env) fp) tg (liftG c tgs g)) (ht : ∀ (s : Shared) (H : Hp) (C : Addr) (cl : List (Str × Addr)) (fp : List Addr), PTs (X.blk s H scope (compEnvC scope cl C X.env) fp) ifs (liftT c wt))
    (he : ∀ (s : Shared) (H : Hp) (C : Addr) (cl : List (Str × Addr)) (fp : List Addr), PE (X.blk s H scope (compEnvC scope cl C X.env) fp) elt (lift c we)) (hy : X.N[i]? = some y := by rfl) (hyl : X.env.scope.names.lookup y = some .local := by rfl) (hs : ∀ x, foldedSetIterable iter X.env x = pure x := by intro _; rfl) :
    PS X (.Assign [.Name y py] (.ListComp elt [⟨tg, iter, ifs, 0⟩] scope pos) spos) (liftS c (wAsg (wLc (own.map (·.2)) wi g wt we) (stN i))) :=
  (ps_setLc hc hN hy hyl hsw hi (blkOk_by ok) hg ht he hs).imp fun E σ H ⟨Γ, T, Ed, hR, hw, k1, k2⟩ => by
    show tLc _ _ _ _ _ σ H fun x H1 => gName i x σ H1 E.nx
    refine lc_end hv ⟨Γ, T, _, hR, hw, fun r Γ1 v H1 q1 R1 => ?_⟩
    obtain ⟨Γ', q, R'⟩ := R1.store q1
    exact k1 _ _ _ q R'
end
end Dl
/-! ## defs, their promises, calls; the law's end -/
namespace Dl
open PySem PySem.Spec PyProof.Rows
open L2
/-- a def keeps its promise where no repr is under way -/
structure FnG (P : Program) (w : World) (K : PySem.W.Frag) (mg : Str → Option Value) (base : Heap) (CX : CXT) (k : Nat) (f : Addr) (fd : FuncData) (ps : List Str) (sp : Sp) : Prop where
  many : ∀ vs H Q E, sp vs H Q E → vs.length = ps.length
  go : ∀ (A : Around) (outer : List Env) (s : Shared) (H : Hp) (args : Args) (us : List Value) (vs : List V) (Q : VK) (E : XK), Room k A → A.guards = some [] → Env0 P w K mg base A outer s H →
    BindsTo s fd args (ps.zip us) → Vals vs us → sp vs H Q E → codeAny (model P w) A (.call (.ref f) args) (CR CX outer P w H s Q E) s
section
variable {P : Program} {w : World} {K : PySem.W.Frag} {mg : Str → Option Value} {base : Heap}
theorem fnG_of {x qual : Str} {st : Stmt} {f : Addr} {fd : FuncData} {N ps : List Str} {k : Nat} {sp : Sp} (F : Fun K x qual st f fd) (S : FnScope N ps (defScope st)) (many : ∀ vs H Q E, sp vs H Q E → vs.length = ps.length)
    (body : ∀ (cdv : Value) (A : Around) (outer : List Env) (s : Shared) (H : Hp) (vs : List V) (Q : VK) (E : XK), Room k (A.deeper (envOfC qual (defScope st) s.heap.objs.size f cdv)) → A.guards = some [] → sp vs H Q E →
      ∃ t, PSs (cxOf CX0 P w K mg base N qual (defScope st) f cdv A outer s H E).nox (defBody st) t ∧ t { nx := fun _ H' => Q .non H', rt := Q } (start N vs) H) : FnG P w K mg base CX0 (k + 1) f fd ps sp := by
  obtain ⟨oc, od, kV, doc, pm, an, cdv, ct, osl, rfl, lk, hcd⟩ := F.ex
  refine ⟨many, fun A outer s H args us vs Q E hr hgd e0 hb r hsp => ?_⟩
  have sizes := many _ _ _ _ hsp
  have kin : K.In s.heap := e0.mod.kin.keeps fun z o hz => (e0.bs z o hz).1
  have nolim : s.heap.NoLimit := e0.mod.nolimit.keeps fun z o hz => (e0.bs z o hz).1
  have kinds : ∀ y ∈ ps.zip us, (defScope st).names.lookup y.1 = some .local ∨ ((defScope st).names.lookup y.1 = some .cell ∧ ((cellsFrom (s.heap.objs.size + 1) (defScope st).names []).lookup y.1).isSome = true) := by
    rintro ⟨n, z⟩ hy
    rcases S.par n (List.of_mem_zip hy).1 with q | q
    · exact .inl q
    · exact .inr ⟨q, PySem.W.cellsFrom_some _ _ _ (.inl q)⟩
  refine codeAny_call_function hr.depth (kin _ _ lk) rfl S.co S.gen rfl (PySem.W.codeRec_of kin hcd) (hb _ _ _ _ (wpAny_newFunctionEnv_cells S.kind kinds fun env he s1 y => ?_))
  cases he
  refine ⟨nolim.keeps y.toInCall.keep, codeAny_func ?_⟩
  obtain ⟨t, ht, hq⟩ := body cdv A outer s H vs Q E (hr.deeper _) hgd hsp
  have I := inv_start (CX := CX0) (E := E) S hr.hd e0 sizes r y
  refine wpAny_mono (ht.nox.run [] s1 _ H _ I hq) (fun fl s' hs => ?_) fun e s' hs => hs
  cases fl with
  | next =>
    obtain ⟨σ', H', J, q⟩ := hs
    exact ⟨V.non, H', J.os, J.bare, J.base, J.hok, rfl, q⟩
  | ret u =>
    obtain ⟨v, σ', H', J, rv, q⟩ := hs
    exact ⟨v, H', J.os, J.bare, J.base, J.hok, rv, q⟩
  | brk =>
    obtain ⟨_, _, _, q⟩ := hs
    exact q.elim
  | cont =>
    obtain ⟨_, _, _, q⟩ := hs
    exact q.elim
end
section
variable {X : Cx} {CX : CXT} {k : Nat} {f : Addr} {fd : FuncData} {ps : List Str} {sp : Sp} {x : Str} {p pos : Pos} {e : Expr} {es : List Expr} {t : TA}
/-- f(e, ..) -/
theorem pe_callG (F : FnG X.prog X.w X.K X.mg X.base CX0 k f fd ps sp) (hr : Room k X.A) (hgd : X.A.guards = some []) (hg : Gl X x) (hm : X.mg x = some (.ref f)) (hk : PySem.W.keepIn X.K (.ref f) = true) (hb : Binds X.K fd ps []) (ha : PA X (e :: es) t)
    (hdb : (x == ("__debug__" : Str)) = false) (he : starEach (e :: es) X.env = (false, eval e X.env) :: starEach es X.env) (hpl : (backTo pos (starEach es X.env)).any (·.1) = false) :
    PE X (.Call (.Name x p) (e :: es) [] pos) (tCall sp [] E0 t) := by
  refine ⟨fun pins s σ H Q I h => wpAny_Call_Name_kw (ld_glob I hg hm ?_ hdb)⟩
  refine PySem.W.callWith_K (h₀ := X.base) I.ok.mod.kin hk (thn (ha.run pos pins s σ H _ I h) fun us s1 q1 => ?_) he hpl
  obtain ⟨vs, H1, I1, r, q⟩ := q1
  refine ⟨I1.kIn, ?_⟩
  rw [List.append_nil] at q
  have sizes : us.length = ps.length := by rw [← r.length]; exact F.many _ _ _ _ q
  have hb' := hb s1 us I1.kIn (by rw [List.append_nil]; exact sizes)
  rw [List.append_nil] at hb'
  refine wpAny_call (codeAny_mono (F.go X.A X.stack s1 H1 ⟨us, []⟩ us vs Q E0 hr hgd I1.env0 hb' r q) fun res s' hq => ?_)
  cases res with
  | error z => exact False.elim hq
  | ok fl =>
    cases fl with
    | ret u => exact I1.after hq
    | next => exact False.elim hq
    | brk => exact False.elim hq
    | cont => exact False.elim hq
end
/-! ### promises over data -/
/-- an argument, a result: data; a list or dict (lent; the callee's own) -/
inductive Ar where
  | dat (d : D) | lst (l : List D) | dk (kvs : List (Key × D)) | dt (kvs : List (List Key × D))
inductive ArR : Ar → R → Prop where
  | dat (d : D) : ArR (.dat d) (.dat d)
  | lst (a : Addr) (l : List D) : ArR (.lst l) (.lst true a l)
  | dk (a : Addr) (l : List (Key × D)) : ArR (.dk l) (.dk true none a l)
  | dt (a : Addr) (l : List (List Key × D)) : ArR (.dt l) (.dt true none a l)
inductive ArRs : List Ar → List R → Prop where
  | nil : ArRs [] []
  | cons {a : Ar} {r : R} {as : List Ar} {rs : List R} : ArR a r → ArRs as rs → ArRs (a :: as) (r :: rs)
inductive OutR : Ar → R → Prop where
  | dat (d : D) : OutR (.dat d) (.dat d)
  | lst (a : Addr) (l : List D) : OutR (.lst l) (.lst false a l)
  | dk (a : Addr) (l : List (Key × D)) : OutR (.dk l) (.dk false none a l)
  | dt (a : Addr) (l : List (List Key × D)) : OutR (.dt l) (.dt false none a l)
/-- what a def promises: of its arguments, to what its result and what it leaves in the lent ones is wanted -/
abbrev Spec := List Ar → (Ar → List Ar → Prop) → Prop
/-- the lent things behind the call -/
inductive Left : List R → List Ar → List R → Prop where
  | nil : Left [] [] []
  | dat {d : D} {rs rs' : List R} {as : List Ar} : Left rs as rs' → Left (.dat d :: rs) as (.dat d :: rs')
  | lst {a : Addr} {l l' : List D} {rs rs' : List R} {as : List Ar} : Left rs as rs' → Left (.lst true a l :: rs) (.lst l' :: as) (.lst true a l' :: rs')
  | dk {a : Addr} {l l' : List (Key × D)} {rs rs' : List R} {as : List Ar} : Left rs as rs' → Left (.dk true none a l :: rs) (.dk l' :: as) (.dk true none a l' :: rs')
  | dt {a : Addr} {l l' : List (List Key × D)} {rs rs' : List R} {as : List Ar} : Left rs as rs' → Left (.dt true none a l :: rs) (.dt l' :: as) (.dt true none a l' :: rs')
def spOf (K : PySem.W.Frag) (n : Nat) (S : Spec) : Sp := fun vs H Q _ => vs.length = n ∧ ∃ (c : Cn) (as : List Ar) (rs : List R) (Qd : Ar → List Ar → Prop), c.K = K ∧ c.H0 = H ∧ c.P = owns (rs.zip vs) ∧ ArRs as rs ∧ rs.length = vs.length ∧ Good c c.F0 H (rs.zip vs) ∧ S as Qd ∧
  ∀ o as' r rs' v H' F', Qd o as' → OutR o r → Left rs as' rs' → Good c F' H' ((r, v) :: rs'.zip vs) → Q v H'
/-! ### a def's body -/
def retR (r : R) (Γ : Gm) (k : Ar → Prop) : Prop := match r with
  | .dat d => k (.dat d)
  | .lst false _ l => k (.lst l)
  | .dk false none _ l => k (.dk l)
  | .dt false none _ l => k (.dt l)
  | .adr i a => match nth Γ i with
    | some (.lst false b l) => b = a ∧ k (.lst l)
    | some (.dk false none b l) => b = a ∧ k (.dk l)
    | some (.dt false none b l) => b = a ∧ k (.dt l)
    | _ => False
  | _ => False
def lefts (Γ : Gm) : List R → Nat → (List Ar → Prop) → Prop
  | [], _, k => k []
  | .lst true a _ :: rs, i, k => (match nth Γ i with
    | some (.lst true b l) => b = a ∧ lefts Γ rs (i + 1) fun as => k (.lst l :: as)
    | _ => False)
  | .dk true none a _ :: rs, i, k => (match nth Γ i with
    | some (.dk true none b l) => b = a ∧ lefts Γ rs (i + 1) fun as => k (.dk l :: as)
    | _ => False)
  | .dt true none a _ :: rs, i, k => (match nth Γ i with
    | some (.dt true none b l) => b = a ∧ lefts Γ rs (i + 1) fun as => k (.dt l :: as)
    | _ => False)
  | _ :: rs, i, k => lefts Γ rs (i + 1) k
def fin (rs : List R) (Qd : Ar → List Ar → Prop) : SE where
  nx := fun Γ => lefts Γ rs 0 fun as => Qd (.dat .non) as
  rt := fun r Γ => retR r Γ fun o => lefts Γ rs 0 fun as => Qd o as
def gm0 (n : Nat) (rs : List R) : Gm := rs.map some ++ List.replicate (n - rs.length) none
theorem ents_start : ∀ {rs : List R} {vs : List V} (n : Nat), rs.length = vs.length → Ents (rs.map some ++ List.replicate n none) (vs.map some ++ List.replicate n none) (rs.zip vs)
  | [], [], 0, _ => .nil
  | [], [], n + 1, h => .skip (ents_start (rs := []) (vs := []) n rfl)
  | r :: rs, v :: vs, n, h => .one (ents_start n (by simpa using h))
  | [], _ :: _, _, h => by simp at h
  | _ :: _, [], _, h => by simp at h
section
variable {c : Cn} {F H : Hp} {σ : L2.St} {Γ : Gm} {E L : Ls} {r : R} {v : V}
theorem ents_mem {i : Nat} (he : Ents Γ σ E) (h : nth Γ i = some r) : ∃ v, (r, v) ∈ E := by
  obtain ⟨v, E1, E2, _, rfl, _, _⟩ := he.at (nth_some h)
  exact ⟨v, by simp⟩
/-- what the lent parameters hold at the end -/
theorem lefts_ok {rs0 : List R} {vs0 : List V} {E : Ls} (G : Good c F H L) (he : Ents Γ σ E) (hE : ∀ x ∈ E, x ∈ L) (old : ∀ x ∈ rs0.zip vs0, RepR c c.F0 c.H0 x.1 x.2) : ∀ {rs : List R} {vs : List V} {as0 : List Ar} (i : Nat) {k : List Ar → Prop}, ArRs as0 rs → rs.length = vs.length →
    (∀ x ∈ rs.zip vs, x ∈ rs0.zip vs0) → lefts Γ rs i k → ∃ as rs', k as ∧ Left rs as rs' ∧ (∀ x ∈ rs'.zip vs, RepR c F H x.1 x.2) ∧ owns (rs'.zip vs) = owns (rs.zip vs)
  | [], [], _, i, k, _, _, _, q => ⟨[], [], q, .nil, fun x hx => by simp at hx, rfl⟩
  | [], _ :: _, _, _, _, _, h, _, _ => by simp at h
  | _ :: _, [], _, _, _, _, h, _, _ => by simp at h
  | r :: rs, v :: vs, _, i, k, .cons ha hs, h, hm, q => by
    have hm' : ∀ x ∈ rs.zip vs, x ∈ rs0.zip vs0 := fun x hx => hm x (by simp only [List.zip_cons_cons, List.mem_cons]; exact .inr hx)
    have o1 := old _ (hm (r, v) (by simp))
    have hl : rs.length = vs.length := by simpa using h
    cases ha with
    | dat d =>
      obtain ⟨as, rs', q1, q2, q3, q4⟩ := lefts_ok G he hE old (i + 1) hs hl hm' q
      refine ⟨as, .dat d :: rs', q1, .dat q2, fun x hx => ?_, ?_⟩
      · rcases List.mem_cons.mp (show x ∈ (R.dat d, v) :: rs'.zip vs from hx) with rfl | hx
        · exact RepD.mono G.old _ _ o1
        · exact q3 x hx
      · show [] ++ owns (rs'.zip vs) = [] ++ owns (rs.zip vs)
        rw [q4]
    | lst a l =>
      unfold lefts at q
      split at q
      · rename_i b l' hb
        obtain ⟨rfl, q⟩ := q
        obtain ⟨as, rs', q1, q2, q3, q4⟩ := lefts_ok G he hE old (i + 1) hs hl hm' q
        obtain ⟨w, hw⟩ := ents_mem he hb
        have rw' := G.rep _ (hE _ hw)
        refine ⟨_, .lst true b l' :: rs', q1, .lst q2, fun x hx => ?_, ?_⟩
        · rcases List.mem_cons.mp (show x ∈ (R.lst true b l', v) :: rs'.zip vs from hx) with rfl | hx
          · have e1 : v = .ref b := o1.1
            have e2 : w = .ref b := rw'.1
            show RepR c F H (.lst true b l') v
            rw [e1, ← e2]
            exact rw'
          · exact q3 x hx
        · show [b] ++ owns (rs'.zip vs) = [b] ++ owns (rs.zip vs)
          rw [q4]
      · exact q.elim
    | dk a l =>
      unfold lefts at q
      split at q
      · rename_i b l' hb
        obtain ⟨rfl, q⟩ := q
        obtain ⟨as, rs', q1, q2, q3, q4⟩ := lefts_ok G he hE old (i + 1) hs hl hm' q
        obtain ⟨w, hw⟩ := ents_mem he hb
        have rw' := G.rep _ (hE _ hw)
        refine ⟨_, .dk true none b l' :: rs', q1, .dk q2, fun x hx => ?_, ?_⟩
        · rcases List.mem_cons.mp (show x ∈ (R.dk true none b l', v) :: rs'.zip vs from hx) with rfl | hx
          · have e1 : v = .ref b := o1.1
            have e2 : w = .ref b := rw'.1
            show RepR c F H (.dk true none b l') v
            rw [e1, ← e2]
            exact rw'
          · exact q3 x hx
        · show [b] ++ owns (rs'.zip vs) = [b] ++ owns (rs.zip vs)
          rw [q4]
      · exact q.elim
    | dt a l =>
      unfold lefts at q
      split at q
      · rename_i b l' hb
        obtain ⟨rfl, q⟩ := q
        obtain ⟨as, rs', q1, q2, q3, q4⟩ := lefts_ok G he hE old (i + 1) hs hl hm' q
        obtain ⟨w, hw⟩ := ents_mem he hb
        have rw' := G.rep _ (hE _ hw)
        refine ⟨_, .dt true none b l' :: rs', q1, .dt q2, fun x hx => ?_, ?_⟩
        · rcases List.mem_cons.mp (show x ∈ (R.dt true none b l', v) :: rs'.zip vs from hx) with rfl | hx
          · have e1 : v = .ref b := o1.1
            have e2 : w = .ref b := rw'.1
            show RepR c F H (.dt true none b l') v
            rw [e1, ← e2]
            exact rw'
          · exact q3 x hx
        · show [b] ++ owns (rs'.zip vs) = [b] ++ owns (rs.zip vs)
          rw [q4]
      · exact q.elim
/-- what is handed back -/
theorem ret_ok {k : Ar → Prop} (G : Good c F H L) (he : Ents Γ σ E) (hE : ∀ x ∈ E, x ∈ L) (hm : (r, v) ∈ L) (q : retR r Γ k) : ∃ o r', k o ∧ OutR o r' ∧ RepR c F H r' v := by
  have q0 := G.rep _ hm
  have slot : ∀ {i : Nat} {a : Addr} {r1 : R}, v = .ref a → nth Γ i = some r1 → (∀ w, RepR c F H r1 w → w = .ref a) → RepR c F H r1 v := fun {i a r1} ev h f => by
    obtain ⟨w, hw⟩ := ents_mem he h
    have z := G.rep _ (hE _ hw)
    rw [ev, ← f w z]
    exact z
  unfold retR at q
  split at q
  · exact ⟨_, _, q, .dat _, q0⟩
  · exact ⟨_, _, q, .lst _ _, q0⟩
  · exact ⟨_, _, q, .dk _ _, q0⟩
  · exact ⟨_, _, q, .dt _ _, q0⟩
  · rename_i i a
    have ev : v = .ref a := q0
    split at q
    · rename_i b l hb
      obtain ⟨rfl, q⟩ := q
      exact ⟨_, _, q, .lst _ _, slot ev hb fun w z => z.1⟩
    · rename_i b l hb
      obtain ⟨rfl, q⟩ := q
      exact ⟨_, _, q, .dk _ _, slot ev hb fun w z => z.1⟩
    · rename_i b l hb
      obtain ⟨rfl, q⟩ := q
      exact ⟨_, _, q, .dt _ _, slot ev hb fun w z => z.1⟩
    · exact q.elim
  · exact q.elim
end
section
variable {P : Program} {w : World} {K : PySem.W.Frag} {mg : Str → Option Value} {base : Heap}
/-- THE RULE: a def keeps its promise, by its body's reading over data -/
theorem fn_data {x qual : Str} {st : Stmt} {f : Addr} {fd : FuncData} {N ps : List Str} {k : Nat} {S : Spec} {wb : WS} (F : Fun K x qual st f fd) (Sc : FnScope N ps (defScope st))
    (body : ∀ (c : Cn), c.K = K → ∀ (cdv : Value) (A : Around) (outer : List Env) (s : Shared) (H : Hp) (E : XK), Room k (A.deeper (envOfC qual (defScope st) s.heap.objs.size f cdv)) → A.guards = some [] →
      PSs (cxOf CX0 P w K mg base N qual (defScope st) f cdv A outer s H E).nox (defBody st) (liftS c wb))
    (vc : ∀ as rs Qd, ArRs as rs → rs.length = ps.length → S as Qd → wb (fin rs Qd) (gm0 N.length rs)) : FnG P w K mg base CX0 (k + 1) f fd ps (spOf K ps.length S) := by
  refine fnG_of F Sc (fun vs H Q E h => h.1) fun cdv A outer s H vs Q E hr hgd hsp => ?_
  obtain ⟨hn, c, as, rs, Qd, hK, hH, hP, har, hlen, G, hS, k1⟩ := hsp
  have old : ∀ x ∈ rs.zip vs, RepR c c.F0 c.H0 x.1 x.2 := fun x hx => by rw [hH]; exact G.rep x hx
  -- two things that are laid side by side
  have both : ∀ {F' H' : Hp} {L : Ls} {r : R} {v : V} {o : Ar} {rs' : List R}, Good c F' H' L → OutR o r → RepR c F' H' r v → (∀ x ∈ rs'.zip vs, RepR c F' H' x.1 x.2) → owns (rs'.zip vs) = owns (rs.zip vs) → Good c F' H' ((r, v) :: rs'.zip vs) := fun {F' H' L r v o rs'} G' ho h1 h2 h3 => by
    refine ⟨G'.sub, G'.new, G'.old, G'.keep, G'.pin, fun x hx => ?_, ?_⟩
    · rcases List.mem_cons.mp hx with rfl | hx
      · exact h1
      · exact h2 x hx
    · show (r.ad ++ owns (rs'.zip vs)).Nodup
      rw [h3]
      have no : ∀ {a : Addr}, c.H0 a = none → a ∉ owns (rs.zip vs) := fun {a} h0 hm => by
        obtain ⟨_, o', e, _⟩ := G.own_at hm
        rw [hH] at h0
        rw [h0] at e
        cases e
      cases ho with
      | dat d => exact G.nd
      | lst a l => exact List.nodup_cons.mpr ⟨no h1.2.2.1, G.nd⟩
      | dk a l => exact List.nodup_cons.mpr ⟨no h1.2.2.1, G.nd⟩
      | dt a l => exact List.nodup_cons.mpr ⟨no h1.2.2.1, G.nd⟩
  refine ⟨_, body c hK cdv A outer s H E hr hgd, gm0 N.length rs, [], fin rs Qd, ⟨c.F0, rs.zip vs, ?_, by rw [List.append_nil]; exact G⟩, vc as rs Qd har (by omega) hS, ?_, ?_⟩
  · unfold gm0 L2.start
    rw [hlen]
    exact ents_start _ hlen
  · rintro Γ' σ' H' q ⟨F', E', he, G'⟩
    rw [List.append_nil] at G'
    obtain ⟨as', rs', q1, q2, q3, q4⟩ := lefts_ok G' he (fun x hx => hx) old 0 har hlen (fun x hx => hx) q
    exact k1 _ as' (.dat .non) rs' .non H' F' q1 (.dat _) q2 (both G' (.dat .non) rfl q3 q4)
  · rintro r Γ' v σ' H' q ⟨F', E', he, G'⟩
    have q : retR r Γ' fun o => lefts Γ' rs 0 fun as => Qd o as := q
    obtain ⟨o, r', q, ho, hr'⟩ := ret_ok (r := r) (v := v) G' he (fun x hx => List.mem_append_left _ hx) (by simp) q
    obtain ⟨as', rs', q1, q2, q3, q4⟩ := lefts_ok G' he (fun x hx => List.mem_append_left _ hx) old 0 har hlen (fun x hx => hx) q
    exact k1 o as' r' rs' v H' F' q1 ho q2 (both G' ho hr' q3 q4)
end
end Dl
/-! ## calls; the law's end -/
namespace Dl
open PySem PySem.Spec PyProof.Rows
open L2
section
variable {c : Cn} {F F' H H' : Hp} {σ : L2.St} {Γ : Gm} {E L L' : Ls} {r : R} {v : V} {Pp : List Addr}
/-- behind a call, seen by the caller -/
theorem Good.after (G : Good c F H L) (G' : Good ⟨c.K, H, F, Pp⟩ F' H' L') (apart : ∀ a ∈ owns L, a ∉ Pp) (hP : ∀ b ∈ Pp, c.H0 b = none ∨ b ∈ c.P) : Good c F' H' L := by
  have kp : ∀ b o, H b = some o → b ∉ Pp → H' b = some o := G'.keep
  refine ⟨G'.sub, fun b hb => ?_, fun b o e => G'.old _ _ (G.old _ _ e), fun b o e hb => ?_, fun b hb => ?_, fun e he => ?_, G.nd⟩
  · rcases G'.new b hb with z | z | z
    · rcases G.new b z with y | y | ⟨xs, y⟩
      · exact .inl y
      · exact .inr (.inl y)
      · exact .inr (.inr ⟨xs, G'.old _ _ y⟩)
    · exact .inr (.inl (G.H0_none z))
    · exact .inr (.inr z)
  · refine kp b o (G.keep _ _ e hb) fun z => ?_
    rcases hP b z with y | y
    · rw [y] at e; cases e
    · exact hb y
  · by_cases hz : b ∈ Pp
    · exact G'.pin b hz
    · cases q : H b with
      | none => exact absurd q (G.pin b hb)
      | some o =>
        rw [kp b o q hz]
        simp
  · refine (G.rep e he).stay G'.old fun b hb => ?_
    have hm := mem_owns he hb
    obtain ⟨f, o, h1, h2⟩ := G.own_at hm
    have h3 := kp b o h1 (apart b hm)
    refine ⟨?_, by rw [h3, h1]⟩
    cases q : F' b with
    | none => rfl
    | some o' =>
      rcases G'.new b (by rw [q]; simp) with z | z | ⟨xs, z⟩
      · exact absurd f z
      · have z : H b = none := z
        rw [h1] at z
        cases z
      · have y := G'.sub _ _ z
        rw [h3] at y
        exact absurd (Option.some.inj y) (h2 xs)
theorem Good.join (G : Good c F H L) (h : RepR c F H r v) (h1 : ∀ a ∈ r.ad, a ∉ owns L) (h2 : r.ad.Nodup) : Good c F H ((r, v) :: L) := by
  refine ⟨G.sub, G.new, G.old, G.keep, G.pin, fun e he => ?_, List.nodup_append.mpr ⟨h2, G.nd, fun a ha b hb z => h1 a ha (by rw [z]; exact hb)⟩⟩
  rcases List.mem_cons.mp he with rfl | he
  · exact h
  · exact G.rep e he
theorem R.ad_nodup (r : R) : r.ad.Nodup := by cases r <;> simp [R.ad]
/-- a callee's result, seen by the caller -/
theorem out_rep {o : Ar} (ho : OutR o r) (G : Good c F H L) (h : RepR ⟨c.K, H, F, Pp⟩ F' H' r v) : RepR c F' H' r v ∧ ∀ a ∈ r.ad, H a = none := by
  cases ho with
  | dat d => exact ⟨h, fun a ha => absurd ha (by simp [R.ad])⟩
  | lst a l =>
    obtain ⟨h1, h2, h3, h4⟩ := h
    exact ⟨⟨h1, h2, G.H0_none h3, h4⟩, fun b hb => by cases (show b = a by simpa [R.ad] using hb); exact h3⟩
  | dk a l =>
    obtain ⟨h1, h2, h3, h4⟩ := h
    exact ⟨⟨h1, h2, G.H0_none h3, h4⟩, fun b hb => by cases (show b = a by simpa [R.ad] using hb); exact h3⟩
  | dt a l =>
    obtain ⟨h1, h2, h3, h4⟩ := h
    exact ⟨⟨h1, h2, G.H0_none h3, h4⟩, fun b hb => by cases (show b = a by simpa [R.ad] using hb); exact h3⟩
theorem Good.free_owns (G : Good c F H L) {a : Addr} (h : H a = none) : a ∉ owns L := fun z => by
  obtain ⟨_, o, e, _⟩ := G.own_at z
  rw [h] at e
  cases e
end
def outK (o : Ar) (Γ : Gm) (Q : R → Gm → Prop) : Prop := match o with
  | .dat d => Q (.dat d) Γ
  | .lst l => ∀ a, Q (.lst false a l) Γ
  | .dk l => ∀ a, Q (.dk false none a l) Γ
  | .dt l => ∀ a, Q (.dt false none a l) Γ
theorem outK.to {o : Ar} {r : R} {Γ : Gm} {Q : R → Gm → Prop} (h : outK o Γ Q) (ho : OutR o r) : Q r Γ := by
  cases ho with
  | dat d => exact h
  | lst a l => exact h a
  | dk a l => exact h a
  | dt a l => exact h a
def wCall (n : Nat) (S : Spec) (t : WA) : W := fun Γ Q => t Γ fun rs Γ1 => takes rs Γ1 fun ds Γ2 => ds.length = n ∧ S (ds.map Ar.dat) fun o _ => outK o Γ2 Q
theorem arRs_dat : ∀ ds : List D, ArRs (ds.map Ar.dat) (ds.map R.dat)
  | [] => .nil
  | d :: ds => .cons (.dat d) (arRs_dat ds)
theorem owns_dat : ∀ (ds : List D) (vs : List V), owns ((ds.map R.dat).zip vs) = []
  | [], _ => rfl
  | _ :: _, [] => rfl
  | d :: ds, v :: vs => owns_dat ds vs
theorem call_end {c : Cn} {σ : L2.St} {H : Hp} {n : Nat} {S : Spec} {t : WA} {Q : VK} (q : lift c (wCall n S t) σ H Q) : tCall (spOf c.K n S) [] E0 (liftA c t) σ H Q := by
  obtain ⟨Γ, T, Qd, hR, hw, k⟩ := q
  refine ⟨Γ, T, _, hR, hw, fun rs Γ1 vs H1 q1 hl R1 => ?_⟩
  obtain ⟨ds, Γ2, ⟨hn, q2⟩, R2, e2⟩ := R1.takes hl q1
  obtain ⟨F, E, he, G⟩ := R2
  have G0 : Good c F H1 ((ds.map R.dat).zip vs ++ (E ++ T)) := G.perm (zip_left _ _ _)
  have G1 : Good ⟨c.K, H1, F, []⟩ F H1 ((ds.map R.dat).zip vs) := by
    refine ⟨G0.sub, fun b hb => .inl hb, Same.refl _, fun b o e _ => e, fun b hb => absurd hb (by simp), fun x hx => ?_, by rw [owns_dat]; exact List.nodup_nil⟩
    have z := G0.rep x (List.mem_append_left _ hx)
    obtain ⟨r, w⟩ := x
    obtain ⟨d, _, rfl⟩ := List.mem_map.mp (List.of_mem_zip hx).1
    exact z
  refine ⟨by rw [List.append_nil]; omega, ⟨c.K, H1, F, []⟩, ds.map Ar.dat, ds.map R.dat, _, rfl, rfl, ?_, arRs_dat ds, ?_, ?_, q2, ?_⟩
  · rw [List.append_nil, owns_dat]
  · rw [List.append_nil, List.length_map]
    exact e2
  · rw [List.append_nil]
    exact G1
  · rintro o as' r rs' v H' F' hq ho hleft G'
    rw [List.append_nil] at G'
    have GT : Good c F H1 (E ++ T) := G0.less (List.sublist_append_right _ _)
    have GA := GT.after G' (fun a _ z => absurd z (by simp)) fun b hb => absurd hb (by simp)
    obtain ⟨h1, h2⟩ := out_rep ho GT (G'.rep _ List.mem_cons_self)
    exact k _ _ _ _ (hq.to ho) ⟨F', E, he, (GA.join h1 (fun a ha => GT.free_owns (h2 a ha)) r.ad_nodup).perm (front _ _ _).symm⟩
/-- a slot's list or dict, lent -/
inductive LentR : Bool → Addr → Ar → R → Prop where
  | lst (p : Bool) (a : Addr) (l : List D) : LentR p a (.lst l) (.lst p a l)
  | dk (p : Bool) (a : Addr) (l : List (Key × D)) : LentR p a (.dk l) (.dk p none a l)
  | dt (p : Bool) (a : Addr) (l : List (List Key × D)) : LentR p a (.dt l) (.dt p none a l)
theorem LentR.ad {p : Bool} {a : Addr} {o : Ar} {r : R} (h : LentR p a o r) : r.ad = [a] := by cases h <;> rfl
theorem LentR.conv {c c' : Cn} {p p' : Bool} {a : Addr} {o : Ar} {r r' : R} {F H : Hp} {v : V} (h : LentR p a o r) (h' : LentR p' a o r') (hK : c'.K = c.K) (hw : Who c' p' a) (q : RepR c F H r v) : RepR c' F H r' v := by
  cases h <;> cases h' <;> (obtain ⟨q1, q2, q3, q4⟩ := q; exact ⟨q1, q2, hw, by rw [hK]; exact q4⟩)
theorem LentR.who {c : Cn} {p : Bool} {a : Addr} {o : Ar} {r : R} {F H : Hp} {v : V} (h : LentR p a o r) (q : RepR c F H r v) : v = .ref a ∧ Who c p a ∧ F a = none ∧ H a ≠ none := by
  cases h with
  | lst l => obtain ⟨q1, q2, q3, xs, hx, _⟩ := q; exact ⟨q1, q3, q2, by rw [hx]; simp⟩
  | dk l => obtain ⟨q1, q2, q3, xs, hx, _⟩ := q; exact ⟨q1, q3, q2, by rw [hx]; simp⟩
  | dt l => obtain ⟨q1, q2, q3, xs, hx, _⟩ := q; exact ⟨q1, q3, q2, by rw [hx]; simp⟩
def wCallL (n : Nat) (S : Spec) (t : WA) : W := fun Γ Q => t Γ fun rs Γ1 => match rs with
  | .adr i a :: rest => takes rest Γ1 fun ds Γ2 => ds.length + 1 = n ∧ (match nth Γ2 i with
    | some (.lst p b l) => b = a ∧ S (.lst l :: ds.map Ar.dat) fun o as' => (match as' with
      | [.lst l'] => outK o (put Γ2 i (.lst p b l')) Q
      | _ => False)
    | some (.dk p none b l) => b = a ∧ S (.dk l :: ds.map Ar.dat) fun o as' => (match as' with
      | [.dk l'] => outK o (put Γ2 i (.dk p none b l')) Q
      | _ => False)
    | some (.dt p none b l) => b = a ∧ S (.dt l :: ds.map Ar.dat) fun o as' => (match as' with
      | [.dt l'] => outK o (put Γ2 i (.dt p none b l')) Q
      | _ => False)
    | _ => False)
  | _ => False
theorem left_one {a : Addr} {ar : Ar} {r : R} {ds : List D} {as' : List Ar} {rs' : List R} (h0 : LentR true a ar r) (h : Left (r :: ds.map R.dat) as' rs') : ∃ ar' r' rd, as' = [ar'] ∧ rs' = r' :: rd ∧ LentR true a ar' r' := by
  have none_left : ∀ {ds : List D} {as : List Ar} {rs : List R}, Left (ds.map R.dat) as rs → as = [] := by
    intro ds
    induction ds with
    | nil => intro as rs q; cases q; rfl
    | cons d ds ih => intro as rs q; cases q with | dat q => exact ih q
  cases h0 with
  | lst l => cases h with | lst q => exact ⟨_, _, _, by rw [none_left q], rfl, .lst _ _ _⟩
  | dk l => cases h with | dk q => exact ⟨_, _, _, by rw [none_left q], rfl, .dk _ _ _⟩
  | dt l => cases h with | dt q => exact ⟨_, _, _, by rw [none_left q], rfl, .dt _ _ _⟩
theorem callL_core {c : Cn} {σ : L2.St} {H : Hp} {Γ : Gm} {T : Ls} {n : Nat} {S : Spec} {Q : VK} {Qd : R → Gm → Prop} {i : Nat} {a : Addr} {p : Bool} {ar : Ar} {r0 rt : R} {ds : List D} {v0 : V} {vs : List V}
    (R2 : Rel c σ H Γ ((ds.map R.dat).zip vs ++ ((.adr i a, v0) :: T))) (hl : ds.length = vs.length) (hn : ds.length + 1 = n) (hs : nth Γ i = some r0) (h0 : LentR p a ar r0) (ht : LentR true a ar rt)
    (hS : S (ar :: ds.map Ar.dat) fun o as' => ∃ ar' r', as' = [ar'] ∧ LentR p a ar' r' ∧ outK o (put Γ i r') Qd) (k : ∀ r Γ' v H', Qd r Γ' → Rel c σ H' Γ' ((r, v) :: T) → Q v H') : spOf c.K n S ((v0 :: vs) ++ []) H Q E0 := by
  obtain ⟨F, E, he, G⟩ := R2
  obtain ⟨w, E1, E2, h1, rfl, h3, _⟩ := he.at (nth_some hs)
  have G0 : Good c F H ((r0, w) :: ((ds.map R.dat).zip vs ++ ((E1 ++ E2) ++ ((.adr i a, v0) :: T)))) := by
    refine (G.perm (zip_left _ _ _)).perm (List.Perm.trans (List.Perm.append_left _ (front2 E1 E2 _ _)) ?_)
    exact front _ _ _
  have ev : v0 = .ref a := G0.rep (.adr i a, v0) (by simp)
  obtain ⟨ew, who, hF, hH⟩ : w = .ref a ∧ Who c p a ∧ F a = none ∧ H a ≠ none := h0.who (G0.rep _ List.mem_cons_self)
  have na : a ∉ owns ((ds.map R.dat).zip vs ++ ((E1 ++ E2) ++ ((.adr i a, v0) :: T))) := by
    have z : (r0.ad ++ owns _).Nodup := G0.nd
    rw [h0.ad] at z
    exact (List.nodup_cons.mp z).1
  have G1 : Good ⟨c.K, H, F, [a]⟩ F H ((rt, v0) :: (ds.map R.dat).zip vs) := by
    refine ⟨G0.sub, fun b hb => .inl hb, Same.refl _, fun b o e _ => e, fun b hb => by cases (show b = a by simpa using hb); exact hH, fun x hx => ?_, ?_⟩
    · rcases List.mem_cons.mp hx with rfl | hx
      · rw [ev, ← ew]
        exact h0.conv (c := c) (c' := ⟨c.K, H, F, [a]⟩) ht rfl (List.mem_singleton.mpr rfl) (G0.rep _ List.mem_cons_self)
      · have z := G0.rep x (List.mem_cons_of_mem _ (List.mem_append_left _ hx))
        obtain ⟨r, w'⟩ := x
        obtain ⟨d, _, rfl⟩ := List.mem_map.mp (List.of_mem_zip hx).1
        exact z
    · show (rt.ad ++ owns ((ds.map R.dat).zip vs)).Nodup
      rw [owns_dat, ht.ad]
      simp
  have arr : ArR ar rt := by cases ht <;> constructor
  rw [List.append_nil]
  refine ⟨by simp; omega, ⟨c.K, H, F, [a]⟩, ar :: ds.map Ar.dat, rt :: ds.map R.dat, _, rfl, rfl, ?_, .cons arr (arRs_dat ds), by simp [hl], G1, hS, ?_⟩
  · show [a] = rt.ad ++ owns ((ds.map R.dat).zip vs)
    rw [owns_dat, ht.ad]
    rfl
  · rintro o as' r rs' v H' F' ⟨ar', r1, rfl, hr1, hq⟩ ho hleft G'
    obtain ⟨ar2, r2, rd, e1, rfl, hr2⟩ := left_one ht hleft
    cases e1
    have GT : Good c F H ((E1 ++ E2) ++ T) := (G0.tail).less ((List.Sublist.refl (E1 ++ E2)).append (List.sublist_cons_self _ _) |>.trans (List.sublist_append_right _ _))
    have na' : ∀ b ∈ owns ((E1 ++ E2) ++ T), b ∉ [a] := fun b hb z => by
      cases (show b = a by simpa using z)
      exact na ((owns_sub ((List.Sublist.refl (E1 ++ E2)).append (List.sublist_cons_self _ _) |>.trans (List.sublist_append_right _ _))).subset hb)
    have hP : ∀ b ∈ [a], c.H0 b = none ∨ b ∈ c.P := fun b hb => by
      cases (show b = a by simpa using hb)
      cases p with
      | false => exact .inl who
      | true => exact .inr who
    have GA := GT.after G' na' hP
    obtain ⟨z1, z2⟩ := out_rep ho GT (G'.rep _ List.mem_cons_self)
    have lentNow := hr2.conv (c := ⟨c.K, H, F, [a]⟩) (c' := c) hr1 rfl who (G'.rep (r2, v0) (by simp))
    have GB : Good c F' H' ((r1, w) :: (E1 ++ E2 ++ T)) := GA.join (by rw [ew, ← ev]; exact lentNow) (fun b hb z => by
      rw [hr1.ad] at hb
      exact na' b z hb) r1.ad_nodup
    have GC : Good c F' H' ((r, v) :: (E1 ++ (r1, w) :: E2) ++ T) := (GB.perm (front2 _ _ _ _).symm).join z1 (fun b hb z => by
      have hb' := z2 b hb
      obtain ⟨x, hx, hxa⟩ := List.mem_flatMap.mp z
      rcases List.mem_append.mp hx with hx | hx
      · rcases List.mem_append.mp hx with hx | hx
        · exact GT.free_owns hb' (mem_owns (List.mem_append_left _ (List.mem_append_left _ hx)) hxa)
        · rcases List.mem_cons.mp hx with rfl | hx
          · rw [hr1.ad] at hxa
            cases (show b = a by simpa using hxa)
            exact hH hb'
          · exact GT.free_owns hb' (mem_owns (List.mem_append_left _ (List.mem_append_right _ hx)) hxa)
      · exact GT.free_owns hb' (mem_owns (List.mem_append_right _ hx) hxa)) r.ad_nodup
    refine k r _ v H' (hq.to ho) ⟨F', E1 ++ (r1, w) :: E2, ?_, GC.perm (front _ _ _).symm⟩
    rw [put_set]
    exact h3 r1
theorem callL_end {c : Cn} {σ : L2.St} {H : Hp} {n : Nat} {S : Spec} (mono : ∀ as Q Q', (∀ o as', Q o as' → Q' o as') → S as Q → S as Q') {t : WA} {Q : VK} (q : lift c (wCallL n S t) σ H Q) : tCall (spOf c.K n S) [] E0 (liftA c t) σ H Q := by
  obtain ⟨Γ, T, Qd, hR, hw, k⟩ := q
  refine ⟨Γ, T, _, hR, hw, fun rs Γ1 vs H1 q1 hl R1 => ?_⟩
  split at q1
  · rename_i i a rest
    cases vs with
    | nil => simp at hl
    | cons v0 vs =>
      have R1' : Rel c σ H1 Γ1 (rest.zip vs ++ ((.adr i a, v0) :: T)) := R1.perm (front _ _ _).symm
      obtain ⟨ds, Γ2, ⟨hn, q2⟩, R2, e2⟩ := R1'.takes (by simpa using hl) q1
      split at q2
      · rename_i p b l hs
        obtain ⟨rfl, q2⟩ := q2
        refine callL_core R2 e2 hn hs (.lst p b l) (.lst true b l) (mono _ _ _ (fun o as' hq => ?_) q2) k
        split at hq
        · exact ⟨_, _, rfl, .lst _ _ _, hq⟩
        · exact hq.elim
      · rename_i p b l hs
        obtain ⟨rfl, q2⟩ := q2
        refine callL_core R2 e2 hn hs (.dk p b l) (.dk true b l) (mono _ _ _ (fun o as' hq => ?_) q2) k
        split at hq
        · exact ⟨_, _, rfl, .dk _ _ _, hq⟩
        · exact hq.elim
      · rename_i p b l hs
        obtain ⟨rfl, q2⟩ := q2
        refine callL_core R2 e2 hn hs (.dt p b l) (.dt true b l) (mono _ _ _ (fun o as' hq => ?_) q2) k
        split at hq
        · exact ⟨_, _, rfl, .dt _ _ _, hq⟩
        · exact hq.elim
      · exact q2.elim
  · exact q1.elim
/-- what a promise hangs on grows with what is wanted -/
def Mono (S : Spec) : Prop := ∀ as Q Q', (∀ o as', Q o as' → Q' o as') → S as Q → S as Q'
section
variable {X : Cx} {c : Cn} {k : Nat} {f : Addr} {fd : FuncData} {ps : List Str} {x : Str} {p pos : Pos} {e : Expr} {es : List Expr} {t : WA} {n : Nat} {S : Spec} {sp : Sp}
theorem pd_call (F : FnG X.prog X.w X.K X.mg X.base CX0 k f fd ps sp) (hsp : sp = spOf c.K n S) (hr : Room k X.A) (hgd : X.A.guards = some []) (hm : X.mg x = some (.ref f)) (hk : PySem.W.keepIn X.K (.ref f) = true) (hb : Binds X.K fd ps []) (ha : PA X (e :: es) (liftA c t)) (hg : Gl X x := by rfl)
    (hdb : (x == ("__debug__" : Str)) = false := by decide) (he : starEach (e :: es) X.env = (false, eval e X.env) :: starEach es X.env := by rfl) (hpl : (backTo pos (starEach es X.env)).any (·.1) = false := by rfl) : PE X (.Call (.Name x p) (e :: es) [] pos) (lift c (wCall n S t)) := by
  subst hsp
  exact (pe_callG F hr hgd hg hm hk hb ha hdb he hpl).imp fun σ H Q q => call_end q
theorem pd_callL (F : FnG X.prog X.w X.K X.mg X.base CX0 k f fd ps sp) (hsp : sp = spOf c.K n S) (mono : Mono S) (hr : Room k X.A) (hgd : X.A.guards = some []) (hm : X.mg x = some (.ref f)) (hk : PySem.W.keepIn X.K (.ref f) = true) (hb : Binds X.K fd ps []) (ha : PA X (e :: es) (liftA c t)) (hg : Gl X x := by rfl)
    (hdb : (x == ("__debug__" : Str)) = false := by decide) (he : starEach (e :: es) X.env = (false, eval e X.env) :: starEach es X.env := by rfl) (hpl : (backTo pos (starEach es X.env)).any (·.1) = false := by rfl) : PE X (.Call (.Name x p) (e :: es) [] pos) (lift c (wCallL n S t)) := by
  subst hsp
  exact (pe_callG F hr hgd hg hm hk hb ha hdb he hpl).imp fun σ H Q q => callL_end mono q
end
/-! ### the law's end -/
/-- the law's def answers True on any script -/
def lawSpec : Spec := fun as k => match as with
  | [.dat (.scr l)] => l.length ≤ 63 ∧ k (.dat (.bl true)) []
  | _ => False
theorem run_law {P : Program} {w : World} {K : PySem.W.Frag} {mg mb : Str → Option Value} {k : Nat} {fa a : Addr} {fd : FuncData} {x : Str} {s₁ : Shared} {vs : List Value} {ns : List Int} (KX : K.In s₁.heap) (hns : s₁.heap.Ns mainGlobals mg) (hb : s₁.heap.Ns builtinsNs mb)
    (hbb : ∀ y : Str, y ≠ "__name__" → mb y = bootBuiltins y) (hlim : s₁.heap.NoLimit) (hg : s₁.gens = #[]) (ha : s₁.heap.get? a = some { cls := .type "list", data := .seq vs.toArray }) (hi : IntsAre vs ns) (hl : ns.length ≤ 63) (hr : Room k callerA)
    (Fn : ∀ base : Heap, K.In base → base.Ns mainGlobals mg → FnG P w K mg base CX0 k fa fd [x] (spOf K 1 lawSpec)) (hbind : ∀ (s : Shared) (u : Value), BindsTo s fd ⟨[u], []⟩ [(x, u)]) :
    codeAny (model P w) callerA (.call (.ref fa) ⟨[.ref a], []⟩) (fun r s' => r = .ok (.ret (.bool true)) ∧ OldK s₁.heap s'.heap ∧ s'.os = s₁.os ∧ AllBare s'.gens) s₁ := by
  have rv : Vals (ns.map V.int) vs := vals_ints hi
  have sameLen := hi.length
  have h63 : ns.length ≤ sizeLine := lineM (by omega)
  -- over an abstract heap that knows the script at most
  have go : ∀ H : Hp, Only H → SqL K H a (ns.map V.int) → HOk P w H s₁.heap → (∀ z, H z ≠ none → z = a) → (H a ≠ none → K.lookup a = none) →
      codeAny (model P w) callerA (.call (.ref fa) ⟨[.ref a], []⟩) (fun r s' => r = .ok (.ret (.bool true)) ∧ OldK s₁.heap s'.heap ∧ s'.os = s₁.os ∧ AllBare s'.gens) s₁ := by
    intro H hO hS hok only hK
    have off : ∀ {z : Addr} {o : Obj} {es : Array DictEntry} {ep : Nat}, s₁.heap.get? z = some o → o.data = .dict es ep → H z = none := by
      intro z o es ep e d
      cases q : H z with
      | none => rfl
      | some u =>
        cases only z (by rw [q]; simp)
        rw [ha] at e
        cases e
        exact nomatch (show Data.seq vs.toArray _ = Data.dict es ep from d)
    have nsB : ∀ {z : Addr} {m : Str → Option Value}, s₁.heap.Ns z m → (hidT s₁.heap H).Ns z m := by
      rintro z m ⟨o, es, ep, e, d, rest⟩
      exact ⟨o, es, ep, hidT_get e (off e d), d, rest⟩
    have kinB : K.In (hidT s₁.heap H) := fun z o e => hidT_get (KX z o e) (by
      cases q : H z with
      | none => rfl
      | some u =>
        cases only z (by rw [q]; simp)
        rw [hK (by rw [q]; simp)] at e
        cases e)
    obtain ⟨mc, l1, l2⟩ := id hlim
    have md : Mod K mg (hidT s₁.heap H) := ⟨kinB, nsB hns, ⟨mb, nsB hb, hbb⟩, ⟨mc, nsB l1, l2⟩⟩
    have e0 : Env0 P w K mg (hidT s₁.heap H) callerA [] s₁ H := ⟨rfl, md, fun z o e => of_hidT e, Nat.le_of_eq (hidT_size _ _), trivial, fun z hz => absurd (show z ∈ ([] : List Addr) from hz) (by simp), hok, .of_eq hg⟩
    have cn : spOf K 1 lawSpec [.ref a] H (fun v _ => v = .bl true) fun _ _ _ => False := by
      refine ⟨rfl, ⟨K, H, H, []⟩, [.dat (.scr ns)], [.dat (.scr ns)], fun o as => o = .dat (.bl true), rfl, rfl, rfl, .cons (.dat _) .nil, rfl, ?_, ⟨hl, rfl⟩, ?_⟩
      · refine ⟨Same.refl _, fun z hz => .inl hz, Same.refl _, fun z o e _ => e, fun z hz => absurd hz (by simp), fun y hy => ?_, List.nodup_nil⟩
        cases (show y = (.dat (.scr ns), .ref a) by simpa using hy)
        exact ⟨a, rfl, hS⟩
      · rintro o as' r rs' v H' F' rfl ho _ G'
        cases ho
        exact G'.rep (.dat (.bl true), v) List.mem_cons_self
    refine codeAny_mono ((Fn _ kinB (nsB hns)).go callerA [] s₁ H ⟨[.ref a], []⟩ [.ref a] [.ref a] _ _ hr rfl e0 (hbind s₁ (.ref a)) (.cons rfl .nil) cn) fun res s' h => ?_
    cases res with
    | error z => exact False.elim h
    | ok fl =>
      cases fl with
      | next => exact False.elim h
      | brk => exact False.elim h
      | cont => exact False.elim h
      | ret u =>
        obtain ⟨v, H', os, bare, un, hok', r', q⟩ := h
        cases (show v = .bl true from q)
        cases (show u = Value.bool true from r')
        refine ⟨rfl, OldK.of_keep fun z o e => ?_, os, bare⟩
        cases q : H z with
        | none => exact un.keep z o e q (fun y => absurd (show z ∈ ([] : List Addr) from y) (by simp)) (by simp)
        | some u =>
          rcases hO z with y | ⟨ob, xs, y⟩
          · rw [q] at y
            cases y
          · obtain ⟨e1, _⟩ := hok z _ y
            obtain ⟨e2, _⟩ := hok' z _ (un.frzs z ob _ y)
            rw [e] at e1
            cases e1
            exact e2
  cases hk : K.lookup a with
  | some o =>
    have e := KX a o hk
    rw [ha] at e
    cases e
    exact go (fun _ => none) (fun _ => .inl rfl) (.inr ⟨_, vs.toArray, _, hk, rfl, rfl, rfl, by rw [List.size_toArray, sameLen]; exact h63, by simpa using rv⟩) (fun z u y => nomatch (show (none : Option HO) = some u from y)) (fun z y => absurd rfl y) fun y => absurd rfl y
  | none =>
    refine go (fun z => if z = a then some (.frz { cls := .type "list", data := .seq vs.toArray } (.lst (ns.map V.int))) else none) (fun z => ?_) (.inl (.inr ⟨_, if_pos rfl⟩)) (fun z u y => ?_) (fun z y => ?_) fun _ => hk
    · by_cases hz : z = a
      · exact .inr ⟨_, _, if_pos hz⟩
      · exact .inl (if_neg hz)
    · by_cases hz : z = a
      · cases (if_pos hz).symm.trans y
        subst hz
        exact ⟨ha, by rw [List.length_map]; exact h63, vs, _, rv, ha⟩
      · exact nomatch ((if_neg hz).symm.trans y)
    · by_cases hz : z = a
      · exact hz
      · exact absurd (if_neg hz) y
/-- the goal that the head leaves -/
theorem walkG {l : PySem.W.OpenLaw} {k : Nat} {q : Program} {loose : List Str} {XP : (Str → Option Value) → Heap → Prop} {YP : World → Heap → Prop} {d : DefRec} {K : Params → PySem.W.Frag} {x : Str} (hn : l.most = some 63) (hdf : d.params.defaults = []) (hr : Room k callerA)
    (hY : ∀ (w : World) (h : Heap), YP w h → (K w.params).In h)
    (Fn : ∀ (w : World) (mg : Str → Option Value) (fa : Addr) (h : Heap), (K w.params).In h → h.Ns mainGlobals mg → mg d.name = some (.ref fa) → ∃ fd : FuncData, (∀ (s : Shared) (u : Value), BindsTo s fd ⟨[u], []⟩ [(x, u)]) ∧
      ∀ base : Heap, (K w.params).In base → base.Ns mainGlobals mg → FnG l.prog w (K w.params) mg base CX0 k fa fd [x] (spOf (K w.params) 1 lawSpec)) :
    PySem.W.WalkO q loose XP YP l.row.toRowW d [] (fun f vs => PySem.call f vs) := by
  refine Att.attach_call hn hdf fun w s₀ s₁ mg mb fa o pm cd doc a vs ns G Y ho hd hcd hmg hobj hints hlen hg => ?_
  obtain ⟨fd, hb, hF⟩ := Fn w mg fa _ (hY w _ Y) G.T.g hmg
  exact run_law (hY w _ Y) G.T.g G.T.b G.T.builtins G.T.nolimit hg hobj hints hlen hr hF hb
end Dl
/-! ## dicts: read, stored, asked, walked; a list's place stored -/
namespace Dl
open PySem PySem.Spec PyProof.Rows
open L2
/-! ### keys -/
def keyD : D → Option Key
  | .int i => some (.inl i)
  | .str s => some (.inr s)
  | _ => none
def keysD : List D → Option (List Key)
  | [] => some []
  | d :: l => match keyD d, keysD l with
    | some k, some ks => some (k :: ks)
    | _, _ => none
def tkD : D → Option (List Key)
  | .tup l => keysD l
  | _ => none
def kD : Key → D
  | .inl i => .int i
  | .inr s => .str s
@[simp] theorem keyD_kD (k : Key) : keyD (kD k) = some k := by cases k <;> rfl
@[simp] theorem keysD_map : ∀ ks : List Key, keysD (ks.map kD) = some ks
  | [] => rfl
  | k :: ks => by simp [keysD, keysD_map ks]
section
variable {K : PySem.W.Frag} {F H : Hp} {v : V}
theorem kD_rep (k : Key) : RepD K F (kD k) (kV k) := by cases k <;> rfl
theorem keyD_rep {d : D} {k : Key} (h : keyD d = some k) (r : RepD K F d v) : v = kV k := by
  cases d with
  | int i =>
    cases (show some (Sum.inl i) = some k from h)
    exact r
  | str s =>
    cases (show some (Sum.inr s) = some k from h)
    exact r
  | _ => cases h
theorem keysD_rep : ∀ {l : List D} {ks : List Key} {xs : List V}, keysD l = some ks → RepL K F l xs → xs = ks.map kV
  | [], ks, xs, h, r => by
    cases (show some [] = some ks from h)
    exact r
  | d :: l, ks, xs, h, r => by
    obtain ⟨x, xr, rfl, r1, r2⟩ := r
    unfold keysD at h
    split at h
    · rename_i k kr h1 h2
      cases (Option.some.inj h).symm
      rw [keyD_rep h1 r1, keysD_rep h2 r2]
      rfl
    · cases h
theorem kDs_rep : ∀ ks : List Key, RepL K F (ks.map kD) (ks.map kV)
  | [] => rfl
  | k :: ks => ⟨_, _, rfl, kD_rep (F := F) k, kDs_rep ks⟩
theorem tkD_rep {d : D} {ks : List Key} (h : tkD d = some ks) (r : RepD K F d v) : ∃ b, v = .ref b ∧ F b = some (.tup (ks.map kV)) := by
  cases d with
  | tup l =>
    obtain ⟨a, xs, e, f, q⟩ := r
    rw [keysD_rep h q] at f
    exact ⟨a, e, f⟩
  | _ => cases h
theorem RdD.key {d : D} {k : Key} (h : keyD d = some k) (r : RdD K F H d v) : v = kV k := by
  cases d with
  | int i => exact keyD_rep (K := K) (F := F) h r
  | str s => exact keyD_rep (K := K) (F := F) h r
  | _ => cases h
theorem RdD.tkey {d : D} {ks : List Key} (h : tkD d = some ks) (r : RdD K F H d v) : ∃ b, v = .ref b ∧ F b = some (.tup (ks.map kV)) := by
  cases d with
  | tup l => exact tkD_rep h r
  | _ => cases h
end
/-! ### what a dict holds -/
section
variable {κ : Type} [DecidableEq κ]
def lookA : List (κ × D) → κ → Option D
  | [], _ => none
  | p :: l, k => if p.1 = k then some p.2 else lookA l k
def setA : List (κ × D) → κ → D → List (κ × D)
  | [], _, _ => []
  | p :: l, k, d => (if p.1 = k then (p.1, d) else p) :: setA l k d
def putA (l : List (κ × D)) (k : κ) (d : D) : List (κ × D) := if (lookA l k).isSome then setA l k d else l ++ [(k, d)]
/-- pairs and their objects -/
def RepP (K : PySem.W.Frag) (F : Hp) (l : List (κ × D)) (ws : List (κ × V)) : Prop := ws.map (·.1) = l.map (·.1) ∧ RepL K F (l.map (·.2)) (ws.map (·.2))
variable {K : PySem.W.Frag} {F : Hp}
theorem RepP.inv {p : κ × D} {l : List (κ × D)} {ws : List (κ × V)} (h : RepP K F (p :: l) ws) : ∃ w wr, ws = (p.1, w) :: wr ∧ RepD K F p.2 w ∧ RepP K F l wr := by
  obtain ⟨h1, h2⟩ := h
  cases ws with
  | nil => simp at h1
  | cons w wr =>
    obtain ⟨x, r, e, a, b⟩ := h2
    simp only [List.map_cons, List.cons.injEq] at h1 e
    obtain ⟨w1, w2⟩ := w
    obtain ⟨q1, q2⟩ := h1
    obtain ⟨e1, e2⟩ := e
    simp only at q1 e1
    subst q1 e1
    exact ⟨w2, wr, rfl, a, q2, by rw [e2]; exact b⟩
theorem RepP.cons {k : κ} {d : D} {l : List (κ × D)} {w : V} {wr : List (κ × V)} (a : RepD K F d w) (h : RepP K F l wr) : RepP K F ((k, d) :: l) ((k, w) :: wr) :=
  ⟨by simp [h.1], w, wr.map (·.2), rfl, a, h.2⟩
theorem RepP.nil {ws : List (κ × V)} (h : RepP K F ([] : List (κ × D)) ws) : ws = [] := by
  cases ws with
  | nil => rfl
  | cons w wr => simp [RepP] at h
theorem RepP.look : ∀ {l : List (κ × D)} {ws : List (κ × V)} (k : κ), RepP K F l ws → (lookA l k = none ∧ valV ws k = none) ∨ ∃ d w, lookA l k = some d ∧ valV ws k = some w ∧ RepD K F d w
  | [], ws, k, h => by
    rw [h.nil]
    exact .inl ⟨rfl, rfl⟩
  | p :: l, ws, k, h => by
    obtain ⟨w, wr, rfl, a, b⟩ := h.inv
    by_cases e : p.1 = k
    · exact .inr ⟨p.2, w, if_pos e, valV_pos (p := (p.1, w)) e, a⟩
    · have z1 : lookA (p :: l) k = lookA l k := if_neg e
      have z2 : valV ((p.1, w) :: wr) k = valV wr k := valV_neg (p := (p.1, w)) e
      rw [z1, z2]
      exact b.look k
theorem RepP.sets : ∀ {l : List (κ × D)} {ws : List (κ × V)} (k : κ) {d : D} {w : V}, RepP K F l ws → RepD K F d w → RepP K F (setA l k d) (ws.map fun kv => if kv.1 = k then (kv.1, w) else kv)
  | [], ws, k, d, w, h, _ => by
    rw [h.nil]
    exact ⟨rfl, rfl⟩
  | p :: l, ws, k, d, w, h, r => by
    obtain ⟨w0, wr, rfl, a, b⟩ := h.inv
    have z := b.sets k r
    by_cases e : p.1 = k
    · simp only [setA, List.map_cons, if_pos e]
      exact z.cons r
    · simp only [setA, List.map_cons, if_neg e]
      exact z.cons a
theorem RepP.put {l : List (κ × D)} {ws : List (κ × V)} (k : κ) {d : D} {w : V} (h : RepP K F l ws) (r : RepD K F d w) : RepP K F (putA l k d) (putK ws k w) := by
  unfold putA putK
  rcases h.look k with ⟨e1, e2⟩ | ⟨d0, w0, e1, e2, _⟩
  · rw [valV_any, e1, e2, if_neg (by simp), if_neg (by simp)]
    exact ⟨by simp [h.1], by rw [List.map_append, List.map_append]; exact h.2.append (.one r)⟩
  · rw [valV_any, e1, e2, if_pos (by simp), if_pos (by simp)]
    exact h.sets k r
theorem RepP.length {l : List (κ × D)} {ws : List (κ × V)} (h : RepP K F l ws) : ws.length = l.length := by
  have := congrArg List.length h.1
  simpa using this
@[simp] theorem zip_mk : ∀ l : List (κ × D), (l.map (·.1)).zip (l.map (·.2)) = l
  | [] => rfl
  | p :: l => by simp [zip_mk l]
theorem RepP.zip : ∀ {ks : List κ} {vs : List D} {ws : List (κ × V)}, ws.map (·.1) = ks → RepL K F vs (ws.map (·.2)) → RepP K F (ks.zip vs) ws
  | [], vs, [], _, h => ⟨rfl, by simp; exact rfl⟩
  | [], vs, _ :: _, e, _ => by simp at e
  | _ :: _, vs, [], e, _ => by simp at e
  | k :: ks, [], w :: ws, _, h => by
    have : w.2 :: ws.map (·.2) = [] := h
    cases this
  | k :: ks, d :: vs, w :: ws, e, h => by
    obtain ⟨x, r, e1, a, b⟩ := h
    simp only [List.map_cons, List.cons.injEq] at e e1
    obtain ⟨w1, w2⟩ := w
    obtain ⟨q1, q2⟩ := e
    obtain ⟨p1, p2⟩ := e1
    simp only at q1 p1
    subst q1 p1
    exact (RepP.zip q2 (by rw [p2]; exact b)).cons a
end
section
variable {X : Cx} {c : Cn} {e a b tg : Expr} {σ : L2.St} {H : Hp} {Γ : Gm} {T : Ls} {wa wb wc : W} {pos : Pos} {ta tb : WT}
/-! ### d[k], x[i] -/
theorem ix_dict (hu : X.A.units + 1 < cLine) : IxR X (fun x y H Q => ∃ a v, x = .ref a ∧ DGet H a y (some v) ∧ Q v H) := by
  intro value slice pins s σ H x y v u Q I rx ry h hs
  obtain ⟨a, w, rfl, g, q⟩ := h
  obtain rfl : v = Value.ref a := rx
  have hT := dict_typeIs I g
  unfold subscriptTail
  refine wpAny_bind ?_
  rw [getitemInPython_of_ne hT.not_modules]
  refine wpAny_bind (wpAny_specialOf hT PySem.F.slot_dict_getitem.lookup ?_)
  have go : ∀ {Q' : Value → Shared → Prop}, (∀ w' s', Inv X pins σ H s' → RelV w w' → Q' w' s') → wpAny (model X.prog X.w) X.A (subscripted slice false (.ref a) u) Q' X.xe s := fun {Q'} k => by
    rw [hs]
    exact wpAny_operating (d_getItem hu I g ry k)
  first
    | exact wpAny_pure (wpAny_bind (go fun w' s' I' r' => wpAny_bind (wpAny_letTemporaryGo (wpAny_pure ⟨w, H, I', r', q⟩))))
    | exact wpAny_bind (wpAny_pure (wpAny_bind (go fun w' s' I' r' => wpAny_bind (wpAny_letTemporaryGo (wpAny_pure ⟨w, H, I', r', q⟩)))))
    | exact wpAny_bind (go fun w' s' I' r' => wpAny_bind (wpAny_letTemporaryGo (wpAny_pure ⟨w, H, I', r', q⟩)))
def gDk (ks : List Key) (vs : List D) (y : D) (k : R → Prop) : Prop := match keyD y with
  | some q => match lookA (ks.zip vs) q with
    | some d => k (.dat d)
    | none => False
  | none => False
def gDt (ks : List (List Key)) (vs : List D) (y : D) (k : R → Prop) : Prop := match tkD y with
  | some q => match lookA (ks.zip vs) q with
    | some d => k (.dat d)
    | none => False
  | none => False
def gAt : BOp
  | .dk ks vs, y, k => gDk ks vs y k
  | .dt ks vs, y, k => gDt ks vs y k
  | d, y, k => gIx d y k
/-- what a dict holds at a key -/
theorem dgetK {F : Hp} {ks : List Key} {vs : List D} {x y : V} {dy : D} {q : Key} (rd : RdD c.K F H (.dk ks vs) x) (ry : RdD c.K F H dy y) (hk : keyD dy = some q) :
    ∃ a o, x = .ref a ∧ DGet H a y o ∧ ((lookA (ks.zip vs) q = none ∧ o = none) ∨ ∃ d w, lookA (ks.zip vs) q = some d ∧ o = some w ∧ RepD c.K F d w) := by
  obtain ⟨a, ws, e, f, g, r⟩ := rd
  refine ⟨a, valV ws q, e, .inl ⟨ws, q, f, ry.key hk, rfl⟩, ?_⟩
  exact (RepP.zip g r).look q
theorem dgetT {F : Hp} (s : Same F H) {ks : List (List Key)} {vs : List D} {x y : V} {dy : D} {q : List Key} (rd : RdD c.K F H (.dt ks vs) x) (ry : RdD c.K F H dy y) (hk : tkD dy = some q) :
    ∃ a o, x = .ref a ∧ DGet H a y o ∧ ((lookA (ks.zip vs) q = none ∧ o = none) ∨ ∃ d w, lookA (ks.zip vs) q = some d ∧ o = some w ∧ RepD c.K F d w) := by
  obtain ⟨a, ws, e, f, g, r⟩ := rd
  obtain ⟨b, e1, e2⟩ := ry.tkey hk
  refine ⟨a, valV ws q, e, .inr ⟨ws, q, b, f, e1, s _ _ e2, rfl⟩, ?_⟩
  exact (RepP.zip g r).look q
theorem pd_sub (hu : X.A.units + 1 < cLine) (ha : PE X a (lift c wa)) (hb : PE X b (lift c wb)) (hs : PlainIx b := by exact fun _ _ => rfl) (hK : X.K = c.K := by rfl) : PE X (.Subscript a b pos) (lift c (wBin gAt wa wb)) := by
  refine (pe_ix (ix_seq.or (ix_dict hu)) ha hb hs).imp fun σ H Q ⟨Γ, T, Qd, hR, hw, k⟩ => ?_
  refine ⟨Γ, T, _, hR, hw, fun r1 Γ1 x H1 q1 R1 => ⟨Γ1, _, _, R1, q1, fun r2 Γ2 y H2 q2 R2 => ?_⟩⟩
  refine bin_end (rr := fun x y H Q => rIx X.K x y H Q ∨ ∃ a v, x = .ref a ∧ DGet H a y (some v) ∧ Q v H) (g := gAt) (fun F H L x y d e Qd Q G rd re qq k => ?_) R2 q2 fun r v H' hq R' => k _ _ _ _ hq (R'.less ((List.Sublist.cons _ (List.Sublist.cons _ (List.Sublist.refl _))).cons₂ _))
  have old : gIx d e Qd → (rIx X.K x y H Q ∨ ∃ a v, x = .ref a ∧ DGet H a y (some v) ∧ Q v H) := fun q => by
    left
    unfold gIx at q
    split at q
    · rename_i l i
      split at q
      · rename_i d hd
        obtain ⟨a, xs, rfl, f, r1⟩ := rd
        obtain ⟨z, hz, rz⟩ := repL_ix r1 hd
        exact .inr (.inl ⟨a, xs, i, z, rfl, re, SqT.of (G.sub _ _ f), hz, k _ _ _ _ q (G.also (r := .dat d) rz rfl)⟩)
      · exact q.elim
    · rename_i l i
      split at q
      · rename_i d hd
        obtain ⟨a, xs, rfl, f, r1⟩ := rd
        obtain ⟨z, hz, rz⟩ := repL_ix r1 hd
        exact .inl ⟨a, xs, i, z, rfl, re, SqL.of f, hz, k _ _ _ _ q (G.also (r := .dat d) rz rfl)⟩
      · exact q.elim
    · rename_i s i
      obtain ⟨q0, q⟩ := q
      split at q
      · rename_i d hd
        exact .inr (.inr ⟨s, i, d, rd, re, lineM q0, ixD_at hd, k _ _ _ _ q (G.also (r := .dat (.str ⟨#[d]⟩)) rfl rfl)⟩)
      · exact q.elim
    · exact q.elim
  unfold gAt at qq
  split at qq
  · rename_i ks vs
    unfold gDk at qq
    split at qq
    · rename_i kk hk
      obtain ⟨a, o, rfl, g, z⟩ := dgetK rd re hk
      split at qq
      · rename_i d hd
        rcases z with ⟨z, _⟩ | ⟨d', w, z1, rfl, rw'⟩
        · rw [hd] at z; cases z
        · rw [hd] at z1
          cases z1
          exact .inr ⟨a, w, rfl, g, k _ _ _ _ qq (G.also (r := .dat d) rw' rfl)⟩
      · exact qq.elim
    · exact qq.elim
  · rename_i ks vs
    unfold gDt at qq
    split at qq
    · rename_i kk hk
      obtain ⟨a, o, rfl, g, z⟩ := dgetT G.sub rd re hk
      split at qq
      · rename_i d hd
        rcases z with ⟨z, _⟩ | ⟨d', w, z1, rfl, rw'⟩
        · rw [hd] at z; cases z
        · rw [hd] at z1
          cases z1
          exact .inr ⟨a, w, rfl, g, k _ _ _ _ qq (G.also (r := .dat d) rw' rfl)⟩
      · exact qq.elim
    · exact qq.elim
  · exact old qq
/-! ### in, not in -/
def inD (d e : D) (k : Bool → Prop) : Prop := match e with
  | .dk ks vs => (match keyD d with
    | some q => k (lookA (ks.zip vs) q).isSome
    | none => False)
  | .dt ks vs => (match tkD d with
    | some q => k (lookA (ks.zip vs) q).isSome
    | none => False)
  | .lst l => sh d 60 = true ∧ sh (.lst l) 60 = true ∧ k (l.any fun x => eqD x d)
  | _ => False
def gIn : BOp := fun d e k => inD d e fun b => k (.dat (.bl b))
def gNin : BOp := fun d e k => inD d e fun b => k (.dat (.bl (!b)))
theorem op_dIn (hu : X.A.units + 1 < cLine) : OpR X (compareOp .In) (fun y x H Q => ∃ a o, x = .ref a ∧ DGet H a y o ∧ Q (.bl o.isSome) H) := by
  intro pins s σ H y x u v Q I ry rx h
  obtain ⟨a, o, rfl, g, q⟩ := h
  obtain rfl : v = Value.ref a := rx
  exact d_in hu I g ry fun s3 I3 => ⟨.bl _, H, I3, rfl, q⟩
theorem op_dNin (hu : X.A.units + 1 < cLine) : OpR X (compareOp .NotIn) (fun y x H Q => ∃ a o, x = .ref a ∧ DGet H a y o ∧ Q (.bl (!o.isSome)) H) := by
  intro pins s σ H y x u v Q I ry rx h
  obtain ⟨a, o, rfl, g, q⟩ := h
  obtain rfl : v = Value.ref a := rx
  exact d_notIn hu I g ry fun s3 I3 => ⟨.bl _, H, I3, rfl, q⟩
theorem toPs_any (d : PyData) : ∀ l : List D, (toPs l).any (fun x => PyData.eqv x d) = l.any fun x => PyData.eqv (toP x) d
  | [] => by simp [toPs]
  | x :: l => by simp [toPs, toPs_any d l]
/-- what is asked, as the rules want it -/
theorem inD_end {neg : Bool} {F : Hp} {L : Ls} {x y : V} {d e : D} {Qd : R → Prop} {Q : VK} (hK : X.K = c.K) (G : Good c F H L) (rd : RdD c.K F H d x) (re : RdD c.K F H e y) (q : inD d e fun b => Qd (.dat (.bl (neg ^^ b)))) (k : ∀ r v H' F', Qd r → Good c F' H' ((r, v) :: L) → Q v H') :
    (∃ d ds, Dp X.K H x d ∧ Dp X.K H y (.list ds) ∧ SeqAt.shaped d = true ∧ SeqAt.shaped (.list ds) = true ∧ Q (.bl (neg ^^ ds.any fun z => PyData.eqv z d)) H) ∨ ∃ a o, y = .ref a ∧ DGet H a x o ∧ Q (.bl (neg ^^ o.isSome)) H := by
  have fin : ∀ b : Bool, Qd (.dat (.bl b)) → Q (.bl b) H := fun b z => k _ _ _ _ z (G.also (r := .dat (.bl b)) rfl rfl)
  unfold inD at q
  split at q
  · split at q
    · rename_i kk hk
      obtain ⟨a, o, rfl, g, z⟩ := dgetK re rd hk
      refine .inr ⟨a, o, rfl, g, fin _ ?_⟩
      rcases z with ⟨z, z0⟩ | ⟨d', w, z1, z0, rw'⟩
      · rw [z] at q; rw [z0]; exact q
      · rw [z1] at q; rw [z0]; exact q
    · exact q.elim
  · split at q
    · rename_i kk hk
      obtain ⟨a, o, rfl, g, z⟩ := dgetT G.sub re rd hk
      refine .inr ⟨a, o, rfl, g, fin _ ?_⟩
      rcases z with ⟨z, z0⟩ | ⟨d', w, z1, z0, rw'⟩
      · rw [z] at q; rw [z0]; exact q
      · rw [z1] at q; rw [z0]; exact q
    · exact q.elim
  · rename_i l
    obtain ⟨h1, h2, q⟩ := q
    have z1 := dp_read G.sub h1 rd
    have z2 := dp_read G.sub h2 re
    have z3 := sh_shaped h2
    rw [hK]
    simp only [toP] at z2 z3
    refine .inl ⟨toP d, toPs l, z1, z2, sh_shaped h1, z3, fin _ ?_⟩
    rw [toPs_any]
    exact q
  · exact q.elim
theorem ok_in (hu : X.A.units + 65 < cLine) (hK : X.K = c.K := by rfl) : OpOk X c (compareOp .In) gIn := ⟨⟨_, (op_inD hu).or (op_dIn (by omega)), fun F H L x y d e Qd Q G rd re q k => by
  have z := inD_end (neg := false) hK G rd re (by simpa [gIn] using q) k
  simpa [rInD] using z⟩⟩
theorem ok_nin (hu : X.A.units + 65 < cLine) (hK : X.K = c.K := by rfl) : OpOk X c (compareOp .NotIn) gNin := ⟨⟨_, (op_notInD hu).or (op_dNin (by omega)), fun F H L x y d e Qd Q G rd re q k => by
  have z := inD_end (neg := true) hK G rd re (by simpa [gNin] using q) k
  simpa [rNotInD] using z⟩⟩
end
end Dl
/-! ## what a slot's object holds, changed; dicts locked and walked -/
namespace Dl
open PySem PySem.Spec PyProof.Rows
open L2
section
variable {X : Cx} {c : Cn} {e a b tg : Expr} {σ : L2.St} {H : Hp} {Γ : Gm} {T : Ls} {wa wb wc : W} {pos : Pos} {ta tb : WT}
theorem Rel.slotAt {i : Nat} {r : R} {ad : Addr} (h : Rel c σ H Γ T) (hr : nth Γ i = some r) (had : r.ad = [ad]) :
    ∃ F w, Same F H ∧ RepR c F H r w ∧ (∀ x ∈ T, RepR c F H x.1 x.2) ∧ ∀ (r' : R) (o : HO) (p : Bool), r'.ad = [ad] → Who c p ad → RepR c F (upd H ad o) r' w → Rel c σ (upd H ad o) (put Γ i r') T := by
  obtain ⟨F, E, he, G⟩ := h
  obtain ⟨w, E1, E2, h1, rfl, h3, _⟩ := he.at (nth_some hr)
  refine ⟨F, w, G.sub, G.rep (r, w) (by simp), fun x hx => G.rep x (List.mem_append_right _ hx), fun r' o p ha' hw hq => ?_⟩
  have G2 := (G.perm (front2 _ _ _ _)).turn (o := o) had ha' hw hq
  rw [put_set]
  exact ⟨F, _, h3 r', G2.perm (front2 _ _ _ _).symm⟩
/-! ### x[i] = v, d[k] = v -/
def storeAt (Γ : Gm) (i : Nat) (a : Addr) (e d : D) (k : Gm → Prop) : Prop := match nth Γ i with
  | some (.lst p b l) => b = a ∧ match e with
    | .int j => (match ixN l.length j with
      | some n => k (put Γ i (.lst p a (l.set n d)))
      | none => False)
    | _ => False
  | some (.dk p none b kvs) => b = a ∧ match keyD e with
    | some q => kvs.length < 1000000 ∧ k (put Γ i (.dk p none a (putA kvs q d)))
    | none => False
  | some (.dt p none b kvs) => b = a ∧ match tkD e with
    | some q => kvs.length < 1000000 ∧ k (put Γ i (.dt p none a (putA kvs q d)))
    | none => False
  | _ => False
def stSub (wo wk : W) : WG := fun r Γ Q => take r Γ fun d Γ0 => wo Γ0 fun ro Γ1 => wk Γ1 fun rk Γ2 => match ro with
  | .adr i a => peek Γ2 rk fun e => storeAt Γ2 i a e d Q
  | _ => False
theorem set_both (hu : X.A.units + 1 < cLine) : PSet X (fun o i v H Q => rSetL o i v H Q ∨ ∃ a H', o = .ref a ∧ DPut H a i v H' ∧ Q H') := by
  intro pins s σ H o i v ov iv u Q I ro ri rv h
  rcases h with h | ⟨a, H', rfl, g, q⟩
  · exact set_list pins s σ H o i v ov iv u Q I ro ri rv h
  · obtain rfl : ov = Value.ref a := ro
    exact d_setItem hu I g ri rv fun s' I' => ⟨H', I', q⟩
theorem who_of {r : R} {F : Hp} {w : V} {p : Bool} {ad : Addr} {l : List D} (h : RepR c F H (.lst p ad l) w) : Who c p ad := h.2.2.1
theorem store_end {i : Nat} {ad : Addr} {d : D} {x y v : V} {rk : R} {Qg : Gm → Prop} {Q : Hp → Prop} (R : Rel c σ H Γ ((rk, y) :: (.adr i ad, x) :: (.dat d, v) :: T)) (q : peek Γ rk fun e => storeAt Γ i ad e d Qg) (k : ∀ Γ' H', Qg Γ' → Rel c σ H' Γ' T → Q H') :
    rSetL x y v H Q ∨ ∃ a H', x = .ref a ∧ DPut H a y v H' ∧ Q H' := by
  have R0 := R
  obtain ⟨F, E, he, G⟩ := R0
  obtain ⟨ek, q, re⟩ := G.peek (r := rk) (v := y) he (fun z hz => List.mem_append_left _ hz) (by simp) q
  have ex : x = .ref ad := G.rep (.adr i ad, x) (by simp)
  unfold storeAt at q
  split at q
  · rename_i p b l hb
    obtain ⟨rfl, q⟩ := q
    split at q
    · rename_i j
      split at q
      · rename_i n hn
        obtain ⟨F1, w, s1, ⟨ew, hF, who, xs, hx, rl⟩, rT, fin⟩ := R.slotAt hb (ad := b) rfl
        have rd : RepD c.K F1 d v := rT (.dat d, v) (by simp)
        refine .inl ⟨b, xs, j, n, ex, re, hx, by rw [rl.length]; exact hn, k _ _ q ?_⟩
        exact (fin (.lst p b (l.set n d)) _ p rfl who ⟨ew, hF, who, _, upd_same, rl.set n rd⟩).less (.cons _ (.cons _ (.cons _ (List.Sublist.refl _))))
      · exact q.elim
    · exact q.elim
  · rename_i p b l hb
    obtain ⟨rfl, q⟩ := q
    split at q
    · rename_i kk hk
      obtain ⟨F1, w, s1, ⟨ew, hF, who, ws, hx, g, rl⟩, rT, fin⟩ := R.slotAt hb (ad := b) rfl
      have rd : RepD c.K F1 d v := rT (.dat d, v) (by simp)
      have rp : RepP c.K F1 l ws := ⟨g, rl⟩
      refine .inr ⟨b, _, ex, .inl ⟨ws, kk, hx, re.key hk, by rw [rp.length]; exact lineL q.1, rfl⟩, k _ _ q.2 ?_⟩
      have rp2 := rp.put kk rd
      exact (fin (.dk p none b (putA l kk d)) _ p rfl who ⟨ew, hF, who, _, upd_same, rp2.1, rp2.2⟩).less (.cons _ (.cons _ (.cons _ (List.Sublist.refl _))))
    · exact q.elim
  · rename_i p b l hb
    obtain ⟨rfl, q⟩ := q
    split at q
    · rename_i kk hk
      obtain ⟨b2, e1, e2⟩ := re.tkey hk
      have e2 := G.sub _ _ e2
      obtain ⟨F1, w, s1, ⟨ew, hF, who, ws, hx, g, rl⟩, rT, fin⟩ := R.slotAt hb (ad := b) rfl
      have rd : RepD c.K F1 d v := rT (.dat d, v) (by simp)
      have rp : RepP c.K F1 l ws := ⟨g, rl⟩
      refine .inr ⟨b, _, ex, .inr ⟨ws, kk, b2, hx, e1, e2, by rw [rp.length]; exact lineL q.1, rfl⟩, k _ _ q.2 ?_⟩
      have rp2 := rp.put kk rd
      exact (fin (.dt p none b (putA l kk d)) _ p rfl who ⟨ew, hF, who, _, upd_same, rp2.1, rp2.2⟩).less (.cons _ (.cons _ (.cons _ (List.Sublist.refl _))))
    · exact q.elim
  · exact q.elim
theorem pgd_sub {o i : Expr} {wo wk : W} (hu : X.A.units + 1 < cLine) (ho : PE X o (lift c wo)) (hi : PE X i (lift c wk))
    (ha : ∀ v, assign (.Subscript o i pos) X.env v = (do let ov ← holding [v] (eval o X.env); let iv ← holding [v, ov] (eval i X.env); standAt pos; holding [v, ov, iv] (setItem ov iv v); release [v, ov, iv] []) := by intro _; rfl) : PG X (.Subscript o i pos) (liftG c [] (stSub wo wk)) := by
  refine (pg_sub ho hi (set_both hu) ha).imp fun v σ H Q ⟨r, Γ, T, Qd, hR, hw, k⟩ => ?_
  obtain ⟨d, Γ0, q0, R0⟩ := hR.take hw
  refine ⟨Γ0, _, _, R0, q0, fun ro Γ1 x H1 q1 R1 => ⟨Γ1, _, _, R1, q1, fun rk Γ2 y H2 q2 R2 => ?_⟩⟩
  split at q2
  · rename_i j ad
    exact store_end (Q := fun H3 => Q σ H3) R2 q2 fun Γ' H' q R' => k Γ' σ H' q R' .refl
  · exact q2.elim
/-! ### {} -/
def wNewK : W := fun Γ Q => ∀ a, Q (.dk false none a []) Γ
def wNewT : W := fun Γ Q => ∀ a, Q (.dt false none a []) Γ
theorem pd_newK : PE X (.Dict [] [] pos) (lift c wNewK) := pe_dnewK.imp fun σ H Q ⟨Γ, T, Qd, ⟨F, E, he, G⟩, hw, k⟩ p hp =>
  k _ _ _ _ (hw p) ⟨F, E, he, (G.newDk (kvs := []) (ws := []) hp rfl rfl).perm (front _ _ _).symm⟩
theorem pd_newT : PE X (.Dict [] [] pos) (lift c wNewT) := pe_dnewT.imp fun σ H Q ⟨Γ, T, Qd, ⟨F, E, he, G⟩, hw, k⟩ p hp =>
  k _ _ _ _ (hw p) ⟨F, E, he, (G.newDt (kvs := []) (ws := []) hp rfl rfl).perm (front _ _ _).symm⟩
/-! ### d.get(k, x) -/
def getD (d e x : D) (k : R → Prop) : Prop := match d with
  | .dk ks vs => (match keyD e with
    | some q => k (.dat ((lookA (ks.zip vs) q).getD x))
    | none => False)
  | .dt ks vs => (match tkD e with
    | some q => k (.dat ((lookA (ks.zip vs) q).getD x))
    | none => False)
  | _ => False
def isDi (Γ : Gm) (r : R) : Prop := peek Γ r fun d => match d with
  | .dk _ _ => True
  | .dt _ _ => True
  | _ => False
def wGet2 (wo wk wx : W) : W := fun Γ Q => wo Γ fun ro Γ1 => isDi Γ1 ro ∧ wk Γ1 fun rk Γ2 => wx Γ2 fun rx Γ3 => match rx with
  | .dat x => peek Γ3 ro fun d => peek Γ3 rk fun e => getD d e x fun r => Q r Γ3
  | _ => False
theorem isDi_at {r : R} {x : V} (R : Rel c σ H Γ ((r, x) :: T)) (h : isDi Γ r) : ∃ a, x = .ref a ∧ IsD H a := by
  obtain ⟨F, E, he, G⟩ := R
  obtain ⟨d, q, rd⟩ := G.peek (r := r) (v := x) he (fun z hz => List.mem_append_left _ hz) (by simp) h
  cases d with
  | dk ks vs =>
    obtain ⟨a, ws, e, f, _⟩ := rd
    exact ⟨a, e, .inl ⟨ws, f⟩⟩
  | dt ks vs =>
    obtain ⟨a, ws, e, f, _⟩ := rd
    exact ⟨a, e, .inr ⟨ws, f⟩⟩
  | _ => exact False.elim q
theorem pd_get2 {o f : Expr} {apos cpos : Pos} {wo wk wx : W} (hu : X.A.units + 1 < cLine) (ho : PE X o (lift c wo)) (he : PE X e (lift c wk)) (hf : PE X f (lift c wx)) (m : M2 X o "get" apos e f cpos := by exact ⟨rfl, rfl, rfl, rfl⟩) :
    PE X (.Call (.Attribute o "get" apos) [e, f] [] cpos) (lift c (wGet2 wo wk wx)) := by
  refine (pe_dget2 hu ho he hf m).imp fun σ H Q ⟨Γ, T, Qd, hR, hw, k⟩ => ⟨Γ, T, _, hR, hw, fun ro Γ1 x H1 q1 R1 => ?_⟩
  obtain ⟨ad, ex, isd⟩ := isDi_at R1 q1.1
  refine ⟨ad, ex, isd, Γ1, _, _, R1, q1.2, fun rk Γ2 y H2 q2 R2 => ⟨Γ2, _, _, R2, q2, fun rx Γ3 z H3 q3 R3 => ?_⟩⟩
  split at q3
  · rename_i dx
    have R4 := R3
    obtain ⟨F, E, hE, G⟩ := R4
    obtain ⟨d, q, rd⟩ := G.peek (r := ro) (v := x) hE (fun z hz => List.mem_append_left _ hz) (by simp) q3
    obtain ⟨ek, q, re⟩ := G.peek (r := rk) (v := y) hE (fun z hz => List.mem_append_left _ hz) (by simp) q
    have rz : RepD c.K F dx z := G.rep (.dat dx, z) (by simp)
    have fin : ∀ {d' : D} {w : V}, RepD c.K F d' w → Qd (.dat d') Γ3 → Q w H3 := fun {d' w} r' hq => k _ _ _ _ hq ⟨F, E, hE, ((G.also (r := .dat d') r' rfl).perm (front _ _ _).symm).less ((List.Sublist.refl E).append (.cons₂ _ (.cons _ (.cons _ (.cons _ (List.Sublist.refl _))))))⟩
    subst ex
    unfold getD at q
    split at q
    · split at q
      · rename_i kk hk
        obtain ⟨a, o, e1, g, zz⟩ := dgetK rd re hk
        cases e1
        refine ⟨o, g, ?_⟩
        rcases zz with ⟨z1, z2⟩ | ⟨d', w, z1, z2, rw'⟩
        · rw [z1] at q
          rw [z2]
          exact fin rz q
        · rw [z1] at q
          rw [z2]
          exact fin rw' q
      · exact q.elim
    · split at q
      · rename_i kk hk
        obtain ⟨a, o, e1, g, zz⟩ := dgetT G.sub rd re hk
        cases e1
        refine ⟨o, g, ?_⟩
        rcases zz with ⟨z1, z2⟩ | ⟨d', w, z1, z2, rw'⟩
        · rw [z1] at q
          rw [z2]
          exact fin rz q
        · rw [z1] at q
          rw [z2]
          exact fin rw' q
      · exact q.elim
    · exact q.elim
  · exact q3.elim
/-! ### locked -/
theorem pe_lockX {t : TE} (h : PE X e t) : PE X e (fun σ H Q => ∃ d u, H d = some u ∧ Mut (some u) ∧ ∀ od, t σ (upd H d (.frz od u)) fun v H' => ∃ u', H' d = some (.frz od u') ∧ Q v (upd H' d u')) :=
  ⟨fun pins s σ H Q I ⟨d, u, hd, mu, hw⟩ => by
    obtain ⟨od, I1⟩ := I.lock hd mu
    exact thn (h.run pins s σ _ _ I1 (hw od)) fun v s1 ⟨x, H1, I2, r, u', e2, q⟩ => ⟨x, _, I2.unlock e2 (I.nofrz hd mu), r, q⟩⟩
def wLock (i : Nat) (w : W) : W := fun Γ Q => match nth Γ i with
  | some (.dk p none a kvs) => ∀ od, w (put Γ i (.dk p (some od) a kvs)) fun r Γ' => nth Γ' i = some (.dk p (some od) a kvs) ∧ Q r (put Γ' i (.dk p none a kvs))
  | some (.dt p none a kvs) => ∀ od, w (put Γ i (.dt p (some od) a kvs)) fun r Γ' => nth Γ' i = some (.dt p (some od) a kvs) ∧ Q r (put Γ' i (.dt p none a kvs))
  | _ => False
theorem pd_lock (i : Nat) {w : W} (h : PE X e (lift c w)) : PE X e (lift c (wLock i w)) := by
  refine (pe_lockX h).imp fun σ H Q ⟨Γ, T, Qd, hR, hw, k⟩ => ?_
  unfold wLock at hw
  split at hw
  · rename_i p ad kvs hr
    obtain ⟨F, x, s, ⟨e1, hF, who, ws, hx, g, rl⟩, _, fin⟩ := hR.slotAt hr (ad := ad) rfl
    refine ⟨ad, .dK ws, hx, True.intro, fun od => ⟨_, T, _, fin (.dk p (some od) ad kvs) (.frz od (.dK ws)) p rfl who ⟨e1, hF, who, ws, upd_same, g, rl⟩, hw od, fun r Γ' v H' ⟨hn, q⟩ R' => ?_⟩⟩
    obtain ⟨F', x', s', ⟨e1', hF', who', ws', hx', g', rl'⟩, _, fin'⟩ := R'.slotAt hn (ad := ad) rfl
    exact ⟨.dK ws', hx', k _ _ _ _ q (fin' (.dk p none ad kvs) (.dK ws') p rfl who ⟨e1', hF', who', ws', upd_same, g', rl'⟩)⟩
  · rename_i p ad kvs hr
    obtain ⟨F, x, s, ⟨e1, hF, who, ws, hx, g, rl⟩, _, fin⟩ := hR.slotAt hr (ad := ad) rfl
    refine ⟨ad, .dT ws, hx, True.intro, fun od => ⟨_, T, _, fin (.dt p (some od) ad kvs) (.frz od (.dT ws)) p rfl who ⟨e1, hF, who, ws, upd_same, g, rl⟩, hw od, fun r Γ' v H' ⟨hn, q⟩ R' => ?_⟩⟩
    obtain ⟨F', x', s', ⟨e1', hF', who', ws', hx', g', rl'⟩, _, fin'⟩ := R'.slotAt hn (ad := ad) rfl
    exact ⟨.dT ws', hx', k _ _ _ _ q (fin' (.dt p none ad kvs) (.dT ws') p rfl who ⟨e1', hF', who', ws', upd_same, g', rl'⟩)⟩
  · exact hw.elim
end
end Dl
/-! ## dict comprehensions of either kind of keys; keys walked -/
namespace Dl
open PySem PySem.Spec PyProof.Rows
open L2
/-- storing in a dict under a comprehension, whatever its keys -/
theorem dset_any {Y : Cx} {pn : List (Addr × Obj)} {τ : L2.St} {G G' : Hp} {t : Shared} {E : Value → Shared → Prop} {D : Addr} {y v : V} {u r : Value} {Q : Unit → Shared → Prop} (hu : Y.A.units < cLine) (J : Inv Y pn τ G t) (g : DPut G D y v G') (ry : RelV y u) (rv : RelV v r) (h : ∀ t', Inv Y pn τ G' t' → Q () t') :
    wpAny (model Y.prog Y.w) Y.A (dictSet D u r) Q E t := by
  rcases g with ⟨kvs, k, e, ey, l, eH⟩ | ⟨kvs, k, b, e, ey, eb, l, eH⟩
  · subst ey eH
    exact d_dictSet J e l ry rv h
  · subst ey eH
    cases (show u = Value.ref b from ry)
    obtain ⟨_, hs, xs, rel, ds⟩ := dt_of J.hok e
    have z1 : kvs.length = xs.length := Paired.length rel
    have z2 := length_putK kvs k v
    refine wpAny_dictSet_heap (hsz := by omega) (show (tupleKind (mixKind Y.prog Y.w)).room Y.A from hu) (key_of J.hok eb) ds fun h' dd' sb => h _ ?_
    obtain ⟨q, es, ep, hq, h2, h3, h4, _, h5⟩ := dd'
    refine d_write J (by rw [e]; exact True.intro) sb ⟨q, hq⟩ ⟨by omega, hs, _, (rel.put k eb rv).keeps fun d ys ed => ?_, q, es, ep, hq, h2, h3, h4, h5⟩
    rw [upd_ne (ne_of ed e fun z => nomatch z)]
    exact ed
/-- an empty dict of either kind -/
inductive Emp : HO → Prop where
  | k : Emp (.dK [])
  | t : Emp (.dT [])
theorem Emp.laid {o : HO} (h : Emp o) {P : Program} {w : World} {G : Hp} (hp : Heap) (hb : sysModules < hp.objs.size) : ObjOk P w G (hp.push { cls := .type "dict", data := .dict #[] }) hp.objs.size o := by
  cases h with
  | k => exact dk_empty hp hb
  | t => exact dt_empty hp hb
/-- a dict comprehension that starts as o; keys of either kind -/
def tDcX (o : HO) (wi : TI) (g : TG) (tt : TT) (tk tv : TE) (vs : List Nat) : TE := fun σ H Q => wi σ H fun J H1 => ∀ D, H1 D = none → ∃ W : Nat → Nat → Hp → Prop, (∃ m, W 0 m (upd H1 D o)) ∧ ∀ i m H, W i m H →
  (J.stop i H ∧ Q (.ref D) H) ∨ (J.go i H ∧ ∃ Nx : Hp → Prop, (∀ H', Nx H' → ∃ m', m' < m ∧ W (i + 1) m' H') ∧ ∀ x H', J.yld i H x H' → g x (wipe σ vs) H' fun σ2 H2 => wipe σ2 vs = wipe σ vs ∧ tt σ2 H2 fun b H3 =>
    if b = true then tk σ2 H3 fun y H4 => tv σ2 H4 fun z H5 => ∃ H6, DPut H5 D y z H6 ∧ Nx H6 else Nx H3)
section
variable {X : Cx}
/-- the block's own context, as a comprehension of the kit's makes it -/
abbrev blkX (X : Cx) (t : Shared) (G : Hp) (sc : Scope) (C : Addr) (cl : List (Str × Addr)) (fp : List Addr) : Cx := X.blk t G sc (compEnvC sc cl C X.env) fp
theorem dcX {kx vx tg iter : Expr} {ifs : List Expr} {sc : Scope} {own : List (Str × Nat)} {pos : Pos} {wi : TI} {g : TG} {tt : TT} {tk tv : TE} {o0 : HO} (em : Emp o0) (hu : X.A.units < cLine) (hc : X.calm = true) (hN : X.N.Nodup) (hi : PI X tg iter wi) (ok : BlkOk X.N X.env.scope sc own)
    (hg : ∀ t G C cl fp, PG (blkX X t G sc C cl fp) tg g) (ht : ∀ t G C cl fp, PTs (blkX X t G sc C cl fp) ifs tt) (hk : ∀ t G C cl fp, PE (blkX X t G sc C cl fp) kx tk) (hv : ∀ t G C cl fp, PE (blkX X t G sc C cl fp) vx tv)
    (hs : ∀ x, foldedSetIterable iter X.env x = pure x := by intro _; rfl) : PE X (.DictComp kx vx [⟨tg, iter, ifs, 0⟩] sc pos) (tDcX o0 wi g tt tk tv (own.map (·.2))) := by
  refine ⟨fun pn s τ G Q J h => ?_⟩
  rw [arm_eval_DictComp]
  have cellAt : ∀ y ∈ sc.names, y.2 = .free → ∃ c, X.env.cells.lookup y.1 = some c := fun y hy e => (ok.free y hy e).elim (fun k => J.ok.has _ (.inl k)) fun k => J.ok.has _ (.inr k)
  refine wpAny_comprehension_free (use := none) rfl hs (closure_ok cellAt) ok.kind (fun y hy e => by rw [ok.uniq y hy, e]) (thn (hi.run pn s τ G _ J h) fun xv s1 hx => thn hx fun itv s2 come => ?_)
  obtain ⟨it, fp, tn, Jt, G2, e0, J2, tu, st2, free2, q⟩ := come
  subst e0
  refine wpAny_newObj_type (newEnv_comp ?_)
  generalize hD : s2.heap.objs.size = D
  obtain ⟨W, ⟨m0, w0⟩, turn⟩ := q D (J2.hok.fresh (Nat.le_of_eq hD))
  generalize hs3 : ({ s2 with heap := s2.heap.push { cls := .type "dict", data := .dict #[] } } : Shared) = s3
  have h3 : s3.heap = s2.heap.push { cls := .type "dict", data := .dict #[] } := by rw [← hs3]
  have J3 : Inv X pn τ (upd G2 D o0) s3 := by
    subst hs3 hD
    exact J2.laid (t' := s2.toks) (fun _ _ e => Heap.get?_push_of_some _ e) (Nat.le_refl _) (em.laid s2.heap J2.big)
  have small : ∀ b ∈ fp, b < s2.heap.objs.size := fun b hb => let ⟨_, e, _⟩ := tu.obj _ _ st2 b hb; Heap.lt_size e
  have free3 : ∀ b ∈ fp, FpOk X pn (upd G2 D o0) b ∧ b < s3.heap.objs.size := fun b hb => by
    have lt := small b hb
    refine ⟨⟨?_, (free2 b hb).2⟩, by rw [h3, Heap.size_push]; exact Nat.lt_succ_of_lt lt⟩
    rw [upd_ne fun z => Nat.lt_irrefl _ (by rw [z, ← hD] at lt; exact lt)]
    exact (free2 b hb).1
  have st3 : tn 0 s3.heap := tu.keep _ _ _ st2 fun b _ o e => by rw [h3]; exact Heap.get?_push_of_some _ e
  have J4 := block_start J3 ok hN free3
  -- the parts in the block that has come
  have pg := hg s3 (upd G2 D o0) s3.heap.objs.size (cellsFrom (s3.heap.objs.size + 1) sc.names (cloFrom X.env.cells sc.names [])) fp
  have pt := ht s3 (upd G2 D o0) s3.heap.objs.size (cellsFrom (s3.heap.objs.size + 1) sc.names (cloFrom X.env.cells sc.names [])) fp
  have pk := hk s3 (upd G2 D o0) s3.heap.objs.size (cellsFrom (s3.heap.objs.size + 1) sc.names (cloFrom X.env.cells sc.names [])) fp
  have pv := hv s3 (upd G2 D o0) s3.heap.objs.size (cellsFrom (s3.heap.objs.size + 1) sc.names (cloFrom X.env.cells sc.names [])) fp
  unfold blkX at pg pt pk pv
  show codeAny _ _ (.compStart (.DictComp kx vx [⟨tg, iter, ifs, 0⟩] sc pos) 0 (.ref it) (.ref D) (compEnvC sc (cellsFrom (s3.heap.objs.size + 1) sc.names (cloFrom X.env.cells sc.names [])) s3.heap.objs.size X.env)) (compPost (model X.prog X.w) X.A X.xe none _ (.ref D) s3.heap.objs.size) { s3 with heap := pushCells (s3.heap.push { cls := .type "dict", data := .dict #[] }) sc.names }
  generalize hce : compEnvC sc (cellsFrom (s3.heap.objs.size + 1) sc.names (cloFrom X.env.cells sc.names [])) s3.heap.objs.size X.env = ce at J4 pg pt pk pv ⊢
  have place : ce.locals = s3.heap.objs.size := by rw [← hce]; rfl
  have off3 : ∀ b ∈ fp, (upd G2 D o0) b = none := fun b hb => (free3 b hb).1.1
  generalize hG3 : upd G2 D o0 = G3 at J3 J4 pg pt pk pv w0 off3 free3
  generalize hs4 : ({ s3 with heap := pushCells (s3.heap.push { cls := .type "dict", data := .dict #[] }) sc.names } : Shared) = s4 at J4 ⊢
  have st4 : tn 0 s4.heap := tu.keep _ _ _ st3 fun b _ o e => by rw [← hs4]; exact pushCells_keeps _ _ _ _ (Heap.get?_push_of_some _ e)
  have foot : ∀ {τ' : L2.St} {G' : Hp} {s' : Shared}, Inv (X.blk s3 G3 sc ce fp) [] τ' G' s' → (∀ b ∈ fp, G' b = none) → ∀ b ∈ fp, FpOk (X.blk s3 G3 sc ce fp) [] G' b := fun {τ' G' s'} J' off b hb =>
    have z := J'.ok.exf b hb
    ⟨off b hb, z.1, J'.ok.exfs b hb, .inl hb, fun x c e => z.2 x c e, fun p hp => absurd (show p ∈ ([] : List (Addr × Obj)) ++ [] from hp) (by simp)⟩
  have loop : codeAny (model X.prog X.w) X.A (.compLoop (.DictComp kx vx [⟨tg, iter, ifs, 0⟩] sc pos) 0 (.ref it) (.ref D) ce) (compPost (model X.prog X.w) X.A X.xe none (EP X pn τ Q) (.ref D) s3.heap.objs.size) s4 := by
    refine compLoop_anyD (fun n t => ∃ i G', Inv (X.blk s3 G3 sc ce fp) [] (wipe τ (own.map (·.2))) G' t ∧ tn i t.heap ∧ (∀ b ∈ fp, G' b = none) ∧ W i n G') ?_ m0 ⟨0, G3, J4, st4, off3, w0⟩
    rintro n s5 ⟨i, G5, J5, st5, off5, w5⟩
    rcases turn i n G5 w5 with ⟨stop, fin⟩ | ⟨go, Nx, less, step⟩
    · refine thnF (tu.done (X.blk s3 G3 sc ce fp) rfl rfl rfl hc i [] s5 _ G5 (fun _ _ => False) J5 (foot J5 off5) st5 stop) fun r s6 ⟨er, J6⟩ => ?_
      subst er
      have J7 : Inv X pn τ G5 s6 := J3.call' (ch := fp) J6.os J6.base J6.hok J6.bare fun b hb => let z := (free3 b hb).1; ⟨z.2.2.2.1, z.2.1, z.2.2.2.2.1, z.2.2.2.2.2⟩
      have nC : G5 s3.heap.objs.size = none := place ▸ J6.free
      obtain ⟨m, hn, _⟩ := J6.loc
      rw [show (X.blk s3 G3 sc ce fp).env.locals = s3.heap.objs.size from place] at hn
      obtain ⟨f0, f1, f2, f3, f4, f5⟩ := J3.fpOk (Nat.le_refl s3.heap.objs.size) nC
      exact ⟨m, hn, fun h'' sb => ⟨.ref D, G5, J7.turned (t' := s6.toks) (fun b o hb e => (sb.2 b hb).trans e) nC f1 f3 f4 f5, rfl, fin⟩⟩
    · refine thnF (tu.item (X.blk s3 G3 sc ce fp) rfl rfl rfl hc i [] s5 _ G5 (fun _ _ => False) J5 (foot J5 off5) st5 go) fun r s6 ⟨u, er, h6⟩ => ?_
      subst er
      refine thnF h6 fun _ s7 ⟨x, G7, J7, r7, y7, st7, off7⟩ => ?_
      have J7' := J7.pinned (foot J7 off7) (tu.obj _ _ st7)
      refine thnF (pg.run _ s7 _ G7 x u _ J7' r7 (step x G7 y7)) fun _ s8 ⟨τ8, G8, J8, same8, q8⟩ => ?_
      refine thnF (pt.run _ s8 τ8 G8 _ J8 q8) fun b s9 ⟨G9, J9, q9⟩ => ?_
      have next : ∀ {t : Shared} {G' : Hp}, Inv (X.blk s3 G3 sc ce fp) ([] ++ pinsAt fp s7.heap) τ8 G' t → Nx G' → ∃ m, m < n ∧ ∃ i G', Inv (X.blk s3 G3 sc ce fp) [] (wipe τ (own.map (·.2))) G' t ∧ tn i t.heap ∧ (∀ b ∈ fp, G' b = none) ∧ W i m G' := fun {t G'} J' nx => by
        obtain ⟨m', lt, w'⟩ := less G' nx
        have pinned : ∀ b ∈ fp, ∀ o, s7.heap.get? b = some o → t.heap.get? b = some o ∧ G' b = none := fun b hb o e => let z := J'.pin (b, o) (List.mem_append_right _ (List.mem_append_right _ (mem_pinsAt hb e))); ⟨z.1, z.2.1⟩
        refine ⟨m', lt, i + 1, G', (J'.unpinned (pins := [])).weak (by rw [← same8, wipe_length]) (fun j v e => (wipe_some (by rw [same8]; exact e)).1), tu.keep _ _ _ st7 fun b hb o e => (pinned b hb o e).1, fun b hb => ?_, w'⟩
        obtain ⟨o, e, _⟩ := tu.obj _ _ st7 b hb
        exact (pinned b hb o e).2
      cases b with
      | false =>
        simp only [Bool.false_eq_true, if_false] at q9 ⊢
        exact next J9 q9
      | true =>
        simp only [if_true] at q9 ⊢
        refine thnF (pk.run _ s9 τ8 G9 _ J9 q9) fun z s10 ⟨yk, G10, J10, r10, q10⟩ => thnF (pv.run _ s10 τ8 G10 _ J10 q10) fun z2 s11 ⟨yv, G11, J11, r11, G12, put, nx⟩ => ?_
        exact dset_any (Y := X.blk s3 G3 sc ce fp) hu J11 put r10 r11 fun s12 J12 => next J12 nx
  exact codeAny_compStart_dict loop (tu.self X.A 0 _ _ _ st4 loop)
end
/-! ### over data -/
/-- a kind of keys -/
structure Kin (κ : Type) [DecidableEq κ] where
  kf : D → Option κ
  mkR : Addr → List (κ × D) → R
  ho : List (κ × V) → HO
  emp : Emp (ho [])
  ad : ∀ a l, (mkR a l).ad = [a]
  rep : ∀ (c : Cn) (F H : Hp) (a : Addr) (l : List (κ × D)) (v : V), RepR c F H (mkR a l) v ↔ (v = .ref a ∧ F a = none ∧ Who c false a ∧ ∃ ws, H a = some (ho ws) ∧ RepP c.K F l ws)
  put : ∀ (K : PySem.W.Frag) (F H : Hp) (E : Addr) (d : D) (q : κ) (ws : List (κ × V)) (y z : V), Same F H → kf d = some q → RepD K F d y → H E = some (ho ws) → ws.length < sizeLine → DPut H E y z (upd H E (ho (putK ws q z)))
def KinK : Kin Key where
  kf := keyD
  mkR a l := .dk false none a l
  ho := .dK
  emp := .k
  ad _ _ := rfl
  rep c F H a l v := Iff.rfl
  put K F H E d q ws y z s h r e l := .inl ⟨ws, q, e, keyD_rep h r, l, rfl⟩
def KinT : Kin (List Key) where
  kf := tkD
  mkR a l := .dt false none a l
  ho := .dT
  emp := .t
  ad _ _ := rfl
  rep c F H a l v := Iff.rfl
  put K F H E d q ws y z s h r e l := by
    obtain ⟨b, e1, e2⟩ := tkD_rep h r
    exact .inr ⟨ws, q, b, e, e1, s _ _ e2, l, rfl⟩
section
variable {X : Cx} {c : Cn} {e a b tg : Expr} {σ : L2.St} {H : Hp} {Γ : Gm} {T : Ls} {wa wb wc : W} {pos : Pos} {ta tb : WT} {κ : Type} [DecidableEq κ]
def someK {κ : Type} (o : Option κ) (k : κ → Prop) : Prop := match o with
  | some q => k q
  | none => False
def dcLoop (N : Kin κ) (vs : List Nat) (gd : Gm → Prop) (g : WG) (wt : WT) (wk wv : W) : List D → List (κ × D) → Gm → (List (κ × D) → Gm → Prop) → Prop
  | [], acc, Γ, k => gd Γ ∧ k acc Γ
  | d :: ds, acc, Γ, k => gd Γ ∧ g (.dat d) Γ fun Γ1 => wt Γ1 fun t Γ2 => match t with
    | true => wk Γ2 fun rk Γ3 => take rk Γ3 fun kd Γ4 => wv Γ4 fun rv Γ5 => take rv Γ5 fun vd Γ6 => someK (N.kf kd) fun q => acc.length < 1000000 ∧ dcLoop N vs gd g wt wk wv ds (putA acc q vd) (wipeG Γ6 vs) k
    | false => dcLoop N vs gd g wt wk wv ds acc (wipeG Γ2 vs) k
def wDc (N : Kin κ) (vs : List Nat) (wi : WI) (g : WG) (wt : WT) (wk wv : W) : W := fun Γ Q => wi Γ fun items gd Γ1 => dcLoop N vs gd g wt wk wv items [] (wipeG Γ1 vs) fun acc Γ2 => ∀ a, Q (N.mkR a acc) Γ2
theorem dcLoop.gd {N : Kin κ} {vs : List Nat} {gd : Gm → Prop} {g : WG} {wt : WT} {wk wv : W} {l : List D} {acc : List (κ × D)} {k : List (κ × D) → Gm → Prop} (h : dcLoop N vs gd g wt wk wv l acc Γ k) : gd Γ := by
  cases l with
  | nil => exact h.1
  | cons d l => exact h.1
theorem Good.newKin {F : Hp} {L : Ls} {p : Addr} (N : Kin κ) (G : Good c F H L) (hp : H p = none) : Good c F (upd H p (N.ho [])) ((N.mkR p [], .ref p) :: L) := by
  obtain ⟨G', f, h0, no⟩ := G.grow (o := N.ho []) hp
  refine ⟨G'.sub, G'.new, G'.old, G'.keep, G'.pin, fun e he => ?_, ?_⟩
  · rcases List.mem_cons.mp he with rfl | he
    · exact (N.rep _ _ _ _ _ _).mpr ⟨rfl, f, h0, [], upd_same, rfl, rfl⟩
    · exact G'.rep e he
  · show ((N.mkR p []).ad ++ owns L).Nodup
    rw [N.ad]
    exact List.nodup_cons.mpr ⟨no, G'.nd⟩
theorem dc_end {N : Kin κ} {vs : List Nat} {tgs : List Nat} (hv : ∀ i ∈ tgs, i ∈ vs) {wi : WI} {g : WG} {wt : WT} {wk wv : W} {Q : VK} (q : lift c (wDc N vs wi g wt wk wv) σ H Q) : tDcX (N.ho []) (liftI c wi) (liftG c tgs g) (liftT c wt) (lift c wk) (lift c wv) vs σ H Q := by
  obtain ⟨Γ, T, Qd, hR, hw, k⟩ := q
  refine ⟨Γ, T, _, hR, hw, fun items gd Γ1 J H1 src q1 R1 hJ D hD => ?_⟩
  have R2 : Rel c (wipe σ vs) (upd H1 D (N.ho [])) (wipeG Γ1 vs) ((N.mkR D [], .ref D) :: (src ++ T)) := by
    obtain ⟨F, E, he, G⟩ := R1.wipe vs
    exact ⟨F, E, he, (G.newKin N hD).perm (front _ _ _).symm⟩
  refine ⟨fun i m H => m = items.length - i ∧ i ≤ items.length ∧ ∃ Γ acc, Rel c (wipe σ vs) H Γ ((N.mkR D acc, .ref D) :: (src ++ T)) ∧ dcLoop N vs gd g wt wk wv (items.drop i) acc Γ fun acc Γ2 => ∀ a, Qd (N.mkR a acc) Γ2, ⟨_, rfl, Nat.zero_le _, _, [], R2, q1⟩, ?_⟩
  rintro i m H2 ⟨rfl, hi, Γ2, acc, R2, q2⟩
  have R3 : Rel c (wipe σ vs) H2 Γ2 (src ++ ((N.mkR D acc, .ref D) :: T)) := R2.perm (front _ _ _).symm
  obtain ⟨js, jg⟩ := hJ i _ H2 Γ2 _ R3 q2.gd
  by_cases hlt : i < items.length
  · have hd : items[i]? = some items[i] := List.getElem?_eq_getElem hlt
    obtain ⟨j1, j2⟩ := jg _ hd
    rw [drop_at hd] at q2
    refine .inr ⟨j1, fun H3 => ∃ Γ acc, Rel c (wipe σ vs) H3 Γ ((N.mkR D acc, .ref D) :: (src ++ T)) ∧ dcLoop N vs gd g wt wk wv (items.drop (i + 1)) acc Γ fun acc Γ2 => ∀ a, Qd (N.mkR a acc) Γ2, fun H3 h3 => ⟨_, by omega, rfl, hlt, h3⟩, fun v H3 hy => ?_⟩
    refine ⟨_, Γ2, _, _, j2 v H3 hy, q2.2, fun Γ3 σ4 H4 q3 R4 sb => ?_⟩
    have hw4 : wipe σ4 vs = wipe σ vs := by rw [sb.wipe hv, wipe_wipe]
    refine ⟨hw4, Γ3, _, _, R4, q3, fun t Γ4 H5 q4 R5 => ?_⟩
    cases t with
    | true =>
      rw [if_pos rfl]
      refine ⟨Γ4, _, _, R5, q4, fun rk Γ5 y H6 q5 R6 => ?_⟩
      obtain ⟨kd, Γ6, q6, R7⟩ := R6.take q5
      refine ⟨Γ6, _, _, R7, q6, fun rv Γ7 z H7 q7 R8 => ?_⟩
      obtain ⟨vd, Γ8, q8, R9⟩ := R8.take q7
      unfold someK at q8
      split at q8
      · rename_i kk hk
        obtain ⟨hz, q8⟩ := q8
        have R10 := R9.wipe vs
        rw [hw4] at R10
        obtain ⟨F, E, he, G⟩ := R10
        have G1 : Good c F H7 ((N.mkR D acc, .ref D) :: (E ++ ((.dat vd, z) :: (.dat kd, y) :: (src ++ T)))) := G.perm (by
          refine List.Perm.trans ?_ (front E _ _)
          refine List.Perm.append_left E ?_
          refine (List.Perm.cons _ (List.Perm.cons _ (front src T _))).trans ?_
          exact (List.Perm.cons _ (List.Perm.swap _ _ _)).trans (List.Perm.swap _ _ _))
        obtain ⟨e1, hF, h0, ws, hx, rl⟩ := (N.rep _ _ _ _ _ _).mp (G1.rep _ List.mem_cons_self)
        have rk' : RepD c.K F kd y := G1.rep (.dat kd, y) (by simp)
        have rv' : RepD c.K F vd z := G1.rep (.dat vd, z) (by simp)
        refine ⟨_, N.put c.K F H7 D kd kk ws y z G1.sub hk rk' hx (by rw [rl.length]; exact lineL hz), wipeG Γ8 vs, putA acc kk vd, ⟨F, E, he, ?_⟩, q8⟩
        have G2 : Good c F (upd H7 D (N.ho (putK ws kk z))) ((N.mkR D (putA acc kk vd), .ref D) :: (E ++ ((.dat vd, z) :: (.dat kd, y) :: (src ++ T)))) := G1.turn (N.ad _ _) (N.ad _ _) (p := false) h0 ((N.rep _ _ _ _ _ _).mpr ⟨e1, hF, h0, _, upd_same, rl.put kk rv'⟩)
        exact ((G2.less (((List.Sublist.refl E).append (.cons _ (List.sublist_cons_self _ _))).cons₂ _))).perm (front _ _ _).symm
      · exact q8.elim
    | false =>
      rw [if_neg Bool.false_ne_true]
      have R8 := R5.wipe vs
      rw [hw4] at R8
      exact ⟨_, acc, R8.perm (front _ _ _), q4⟩
  · have e : items.drop i = [] := List.drop_eq_nil_iff.mpr (by omega)
    rw [e] at q2
    refine .inl ⟨js (by omega), k _ _ _ _ (q2.2 D) (R2.unwipe.less ((List.sublist_append_right _ _).cons₂ _))⟩
theorem pd_dc (N : Kin κ) {kx vx iter : Expr} {ifs : List Expr} {scope : Scope} {own : List (Str × Nat)} {tgs : List Nat} {wi : WI} {g : WG} {wt : WT} {wk wv : W} (hu : X.A.units < cLine) (hc : X.calm = true) (hN : X.N.Nodup) (hi : PI X tg iter (liftI c wi)) (ok : blkC X.N X.env.scope scope own = true) (hv : ∀ i ∈ tgs, i ∈ own.map (·.2))
    (hg : ∀ t G C cl fp, PG (blkX X t G scope C cl fp) tg (liftG c tgs g)) (ht : ∀ t G C cl fp, PTs (blkX X t G scope C cl fp) ifs (liftT c wt)) (hk : ∀ t G C cl fp, PE (blkX X t G scope C cl fp) kx (lift c wk)) (hx : ∀ t G C cl fp, PE (blkX X t G scope C cl fp) vx (lift c wv))
    (hs : ∀ x, foldedSetIterable iter X.env x = pure x := by intro _; rfl) : PE X (.DictComp kx vx [⟨tg, iter, ifs, 0⟩] scope pos) (lift c (wDc N (own.map (·.2)) wi g wt wk wv)) :=
  (dcX N.emp hu hc hN hi (blkOk_by ok) hg ht hk hx hs).imp fun σ H Q q => dc_end hv q
/-! ### keys walked -/
def ItK (d : Addr) (o : Obj) (ks : List Key) : It :=
  ⟨fun i H => ∃ ws : List (Key × V), ws.map (·.1) = ks ∧ H d = some (.frz o (.dK ws)) ∧ i < ws.length, fun i H x H' => H' = H ∧ ∃ k, ks[i]? = some k ∧ x = kV k, fun i H => ∃ ws : List (Key × V), ws.map (·.1) = ks ∧ H d = some (.frz o (.dK ws)) ∧ ws.length ≤ i⟩
def ItT (d : Addr) (o : Obj) (ks : List (List Key)) : It :=
  ⟨fun i H => ∃ ws : List (List Key × V), ws.map (·.1) = ks ∧ H d = some (.frz o (.dT ws)) ∧ i < ws.length, fun i H x H' => H' = H ∧ ∃ (k : List Key) (q : Addr), ks[i]? = some k ∧ x = .ref q ∧ H q = some (.tup (k.map kV)), fun i H => ∃ ws : List (List Key × V), ws.map (·.1) = ks ∧ H d = some (.frz o (.dT ws)) ∧ ws.length ≤ i⟩
theorem turn_K {P : Program} {w : World} {K : PySem.W.Frag} {d : Addr} {o : Obj} {es : Array DictEntry} {ep : Nat} {ks : List Key} (it : Addr) (hod : o.data = .dict es ep) : Turn P w K tg (ItK d o ks) [it] it (fun i h => h.IsKeyIter it d i ks.length ep) := by
  have base : ∀ ws : List (Key × V), ws.map (·.1) = ks → ws.length = ks.length := fun ws e => by rw [← e, List.length_map]
  have some0 := turn_keys (P := P) (w := w) (K := K) (tg := tg) (d := d) (o := o) (kvs := ks.map fun k => (k, V.non)) it hod
  simp only [List.length_map] at some0
  refine ⟨some0.mem, some0.obj, some0.keep, ?_, ?_, some0.self⟩
  · intro X hP hw hK hc i pins s σ H E I hf st ⟨ws, hws, hd, hi⟩
    have z := (turn_keys (P := P) (w := w) (K := K) (tg := tg) (kvs := ws) it hod).item X hP hw hK hc i pins s σ H E I hf (by rw [base ws hws]; exact st) ⟨hd, hi⟩
    refine wpAny_mono z (fun r s1 ⟨u, h1, h2⟩ => ⟨u, h1, wpAny_mono h2 (fun _ s2 ⟨x, H', I', r', ⟨e1, k, v, hk, e2⟩, st', hn⟩ => ⟨x, H', I', r', ⟨e1, k, ?_, e2⟩, by rw [← base ws hws]; exact st', hn⟩) fun _ _ h => h⟩) fun _ _ h => h
    rw [← hws, List.getElem?_map, hk]
    rfl
  · intro X hP hw hK hc i pins s σ H E I hf st ⟨ws, hws, hd, hi⟩
    exact (turn_keys (P := P) (w := w) (K := K) (tg := tg) (kvs := ws) it hod).done X hP hw hK hc i pins s σ H E I hf (by rw [base ws hws]; exact st) ⟨hd, hi⟩
theorem turn_T {P : Program} {w : World} {K : PySem.W.Frag} {d : Addr} {o : Obj} {es : Array DictEntry} {ep : Nat} {ks : List (List Key)} (it : Addr) (hod : o.data = .dict es ep) : Turn P w K tg (ItT d o ks) [it] it (fun i h => h.IsKeyIter it d i ks.length ep) := by
  have base : ∀ ws : List (List Key × V), ws.map (·.1) = ks → ws.length = ks.length := fun ws e => by rw [← e, List.length_map]
  have some0 := turn_keysT (P := P) (w := w) (K := K) (tg := tg) (d := d) (o := o) (kvs := ks.map fun k => (k, V.non)) it hod
  simp only [List.length_map] at some0
  refine ⟨some0.mem, some0.obj, some0.keep, ?_, ?_, some0.self⟩
  · intro X hP hw hK hc i pins s σ H E I hf st ⟨ws, hws, hd, hi⟩
    have z := (turn_keysT (P := P) (w := w) (K := K) (tg := tg) (kvs := ws) it hod).item X hP hw hK hc i pins s σ H E I hf (by rw [base ws hws]; exact st) ⟨hd, hi⟩
    refine wpAny_mono z (fun r s1 ⟨u, h1, h2⟩ => ⟨u, h1, wpAny_mono h2 (fun _ s2 ⟨x, H', I', r', ⟨e1, k, v, q, hk, e2, e3⟩, st', hn⟩ => ⟨x, H', I', r', ⟨e1, k, q, ?_, e2, e3⟩, by rw [← base ws hws]; exact st', hn⟩) fun _ _ h => h⟩) fun _ _ h => h
    rw [← hws, List.getElem?_map, hk]
    rfl
  · intro X hP hw hK hc i pins s σ H E I hf st ⟨ws, hws, hd, hi⟩
    exact (turn_keysT (P := P) (w := w) (K := K) (tg := tg) (kvs := ws) it hod).done X hP hw hK hc i pins s σ H E I hf (by rw [base ws hws]; exact st) ⟨hd, hi⟩
def iKey (td : TE) : TI := fun σ H R => td σ H fun x H1 => ∃ d o, x = .ref d ∧ ((∃ ws, H1 d = some (.frz o (.dK ws)) ∧ R (ItK d o (ws.map (·.1))) H1) ∨ ∃ ws, H1 d = some (.frz o (.dT ws)) ∧ R (ItT d o (ws.map (·.1))) H1)
theorem pi_keyX {td : TE} (he : PE X e td) : PI X tg e (iKey td) := by
  refine ⟨fun pins s σ H R I h => thn (he.run pins s σ H _ I h) fun u s1 ⟨x, H1, I1, rx, d, o, ex, q⟩ => ?_⟩
  subst ex
  obtain rfl : u = Value.ref d := rx
  rcases q with ⟨ws, hd, q⟩ | ⟨ws, hd, q⟩
  · obtain ⟨g1, g2, g3, es, ep, _, hdt, n, _, _⟩ := I1.frzK hd
    refine iter_keys g1 g2 g3 hdt (pi_one (tk := s1.toks) I1 _ (turn_K _ hdt) ⟨_, Heap.get?_push_size _ rfl, rfl, ?_⟩ q)
    rw [List.length_map, n] <;> rfl
  · obtain ⟨g1, g2, g3, es, ep, hdt, n, _⟩ := I1.frzT hd
    refine iter_keys g1 g2 g3 hdt (pi_one (tk := s1.toks) I1 _ (turn_T _ hdt) ⟨_, Heap.get?_push_size _ rfl, rfl, ?_⟩ q)
    rw [List.length_map, n] <;> rfl
def wiKey (wa : W) : WI := fun Γ Q => wa Γ fun r Γ1 => match r with
  | .adr i a => match nth Γ1 i with
    | some (.dk p (some od) b kvs) => b = a ∧ Q (kvs.map fun kv => kD kv.1) (fun Γ => nth Γ i = some (.dk p (some od) a kvs)) Γ1
    | some (.dt p (some od) b kvs) => b = a ∧ Q (kvs.map fun kv => .tup (kv.1.map kD)) (fun Γ => nth Γ i = some (.dt p (some od) a kvs)) Γ1
    | _ => False
  | _ => False
theorem pid_key (ha : PE X a (lift c wa)) : PI X tg a (liftI c (wiKey wa)) := by
  refine (pi_keyX ha).imp fun σ H Q ⟨Γ, T, Qd, hR, hw, k⟩ => ⟨Γ, T, _, hR, hw, fun r Γ1 v H1 q1 R1 => ?_⟩
  split at q1
  · rename_i i ad
    have ev : v = .ref ad := by
      obtain ⟨F, E, he, G⟩ := R1
      exact G.rep (.adr i ad, v) (by simp)
    split at q1
    · rename_i p od b kvs hr
      obtain ⟨rfl, q1⟩ := q1
      obtain ⟨F, x, s, ⟨e1, hF, who, ws, hx, g, rl⟩, _, _⟩ := R1.slotAt hr (ad := b) rfl
      refine ⟨b, od, ev, .inl ⟨ws, hx, k _ _ _ _ _ [] q1 R1.tail fun j σ H Γ T R gd => ?_⟩⟩
      obtain ⟨F, x, s, ⟨e1, hF, who, ws', hx, g', rl⟩, _, _⟩ := R.slotAt gd (ad := b) rfl
      have hl : ws'.length = kvs.length := by simpa using congrArg List.length g'
      refine ⟨fun hi => ⟨ws', by rw [g', g], hx, by rw [hl]; simpa using hi⟩, fun d hd => ?_⟩
      rw [List.getElem?_map] at hd
      obtain ⟨kv, h1, rfl⟩ := Option.map_eq_some_iff.mp hd
      refine ⟨⟨ws', by rw [g', g], hx, by rw [hl]; exact (List.getElem?_eq_some_iff.mp h1).1⟩, fun y H' ⟨e2, kk, hk, e3⟩ => ?_⟩
      rw [g, List.getElem?_map, h1] at hk
      cases hk
      rw [e2, e3]
      exact R.const fun _ _ => kD_rep _
    · rename_i p od b kvs hr
      obtain ⟨rfl, q1⟩ := q1
      obtain ⟨F, x, s, ⟨e1, hF, who, ws, hx, g, rl⟩, _, _⟩ := R1.slotAt hr (ad := b) rfl
      refine ⟨b, od, ev, .inr ⟨ws, hx, k _ _ _ _ _ [] q1 R1.tail fun j σ H Γ T R gd => ?_⟩⟩
      obtain ⟨F, x, s, ⟨e1, hF, who, ws', hx, g', rl⟩, _, _⟩ := R.slotAt gd (ad := b) rfl
      have hl : ws'.length = kvs.length := by simpa using congrArg List.length g'
      refine ⟨fun hi => ⟨ws', by rw [g', g], hx, by rw [hl]; simpa using hi⟩, fun d hd => ?_⟩
      rw [List.getElem?_map] at hd
      obtain ⟨kv, h1, rfl⟩ := Option.map_eq_some_iff.mp hd
      refine ⟨⟨ws', by rw [g', g], hx, by rw [hl]; exact (List.getElem?_eq_some_iff.mp h1).1⟩, fun y H' ⟨e2, kk, q, hk, e3, e4⟩ => ?_⟩
      rw [g, List.getElem?_map, h1] at hk
      cases hk
      rw [e2, e3]
      obtain ⟨F, E, he, G⟩ := R
      obtain ⟨F', f', _, G'⟩ := G.know e4
      exact ⟨F', E, he, (G'.also (r := .dat (.tup (kv.1.map kD))) ⟨q, _, rfl, f', kDs_rep _⟩ rfl).perm (front _ _ _).symm⟩
    · exact q1.elim
  · exact q1.elim
end
end Dl
/-! ## sorted -/
namespace Dl
open PySem PySem.Spec PyProof.Rows
open L2
def leD (d e : D) : Bool := PySem.W.dataLe false toP d e
def sortD (l : List D) : List D := l.mergeSort leD
structure SrtOk (l : List D) : Prop where
  al : PySem.W.AllAlike (l.map toP)
  so : PySem.W.Sortable (l.map toP)
  sz : l.length ≤ 1000000
  sh : ∀ d ∈ l, Dl.sh d 60 = true
mutual
theorem reads_in {h : Heap} : ∀ (d : PyData) (v : Value) (as : List Addr), PySem.W.alike d d = true → Reads h v d as → ∀ a ∈ as, ∃ o, h.get? a = some o
  | .none, _, _, _, r => by cases r; simp
  | .bool _, _, _, _, r => by cases r; simp
  | .int _, _, _, _, r => by cases r; simp
  | .str _, _, _, _, r => by cases r; simp
  | .list xs, _, _, al, r => by
    cases r with
    | list h1 h2 h3 h4 =>
      intro a ha
      rcases List.mem_cons.mp ha with rfl | ha
      · exact ⟨_, h1⟩
      · exact readsAll_in xs _ _ (by simpa [PySem.W.alike] using al) h4 a ha
  | .tuple xs, _, _, al, r => by
    cases r with
    | tuple h1 h2 h3 h4 => exact readsAll_in xs _ _ (by simpa [PySem.W.alike] using al) h4
  | .dict _, _, _, al, _ => absurd al (by simp [PySem.W.alike])
theorem readsAll_in {h : Heap} : ∀ (ds : List PyData) (vs : List Value) (as : List Addr), PySem.W.alikeAll ds ds = true → ReadsAll h vs ds as → ∀ a ∈ as, ∃ o, h.get? a = some o
  | [], _, _, _, r => by cases r; simp
  | d :: ds, _, _, al, r => by
    cases r with
    | cons h1 h2 =>
      intro a ha
      rcases List.mem_append.mp ha with ha | ha
      · exact reads_in d _ _ (PySem.W.alike_all_cons al).1 h1 a ha
      · exact readsAll_in ds _ _ (PySem.W.alike_all_cons al).2 h2 a ha
end
section
variable {X : Cx} {c : Cn} {K : PySem.W.Frag} {F H : Hp}
/-- what a value stands for, both ways -/
def Std (K : PySem.W.Frag) (F : Hp) (u : Value) (d : D) : Prop := ∃ x, RepD K F d x ∧ RelV x u
theorem std_all : ∀ {l : List D} {ys : List V} {us : List Value}, RepL K F l ys → Vals ys us → PySem.W.EachIs (Std K F) us l
  | [], _, _, r, v => by
    cases (show _ = [] from r)
    cases v
    exact .nil
  | d :: l, _, _, r, v => by
    obtain ⟨x, xr, rfl, a, b⟩ := r
    cases v with
    | cons h t => exact .cons ⟨x, a, h⟩ (std_all b t)
theorem std_back : ∀ {l : List D} {us : List Value}, PySem.W.EachIs (Std K F) us l → ∃ ys, RepL K F l ys ∧ Vals ys us
  | _, _, .nil => ⟨[], rfl, .nil⟩
  | _, _, .cons ⟨x, a, h⟩ t => by
    obtain ⟨ys, b, v⟩ := std_back t
    exact ⟨x :: ys, ⟨x, ys, rfl, a, b⟩, .cons h v⟩
theorem std_reads {pins : List (Addr × Obj)} {σ : L2.St} {s : Shared} (I : Inv X pins σ H s) (hK : X.K = K) (sm : Same F H) : ∀ {l : List D} {us : List Value}, (∀ d ∈ l, sh d 60 = true) → PySem.W.EachIs (Std K F) us l → PySem.W.EachIs (fun v b => ∃ as, Reads s.heap v (toP b) as) us l
  | _, _, _, .nil => .nil
  | _, _, q, .cons ⟨x, a, h⟩ t => .cons (Dp.reads I _ x _ (by rw [hK]; exact dp_rep sm _ 60 x (q _ (by simp)) a) h) (std_reads I hK sm (fun d hd => q d (List.mem_cons_of_mem _ hd)) t)
theorem vals_keys : ∀ (ks : List Key) (us : List Value), us.length = ks.length → (∀ (j : Nat) (v : Value) (k : Key), us[j]? = some v → ks[j]? = some k → RelV (kV k) v) → Vals (ks.map kV) us
  | [], [], _, _ => .nil
  | [], _ :: _, e, _ => by simp at e
  | _ :: _, [], e, _ => by simp at e
  | k :: ks, u :: us, e, h => .cons (h 0 u k rfl rfl) (vals_keys ks us (by simpa using e) fun j v k a b => h (j + 1) v k (by simpa using a) (by simpa using b))
/-- sorted, whatever gives the items -/
theorem sorted_any0 {pins : List (Addr × Obj)} {σ : L2.St} {s : Shared} {v : Value} {l : List D} {Q : VK} (hK : X.K = K) (hu : X.A.units + 64 < cLine) (sm : Same F H) (ok : SrtOk l)
    (col : ∀ (Q' : List Value → Shared → Prop), (∀ s' ys acc, Inv X pins σ H s' → Vals ys acc → RepL K F l ys → Q' acc s') → wpAny (model X.prog X.w) X.A.in1 (collect v) Q' X.xe s)
    (q : ∀ p ys, H p = none → RepL K F (sortD l) ys → Q (.ref p) (upd H p (.lst ys))) : wpAny (model X.prog X.w) X.A (call (.builtin "sorted") [v]) (EP X pins σ Q) X.xe s := by
  refine Calls.call_function_entry PyProof.Rows.kind_sorted PyProof.Rows.plain_sorted PyProof.Rows.entry_sorted (PyProof.Rows.args_sorted1 _) ?_
  unfold Builtin.«sorted»
  refine wpAny_bind (m := checkCount "sorted" 1 1 _) (wpAny_pure ?_)
  refine wpAny_bind (col _ fun s' ys acc I1 rv rl => ?_)
  have e := std_all rl rv
  have hal : acc.length = l.length := by rw [← rv.length, rl.length]
  have hz := lineM ok.sz
  refine wpAny_bind (wpAny_newList ?_ (by omega))
  have hoL : (s'.heap.push (seqObj "list" acc.toArray 0)).get? s'.heap.objs.size = some (seqObj "list" acc.toArray 0) := Heap.get?_push_size _ rfl
  have er : PySem.W.EachIs (fun v b => ∃ as, Reads (s'.heap.push (seqObj "list" acc.toArray 0)) v (toP b) as ∧ s'.heap.objs.size ∉ as) acc l := by
    refine (PySem.W.each_mem (std_reads I1 hK sm ok.sh e)).mono fun v b ⟨⟨as, r⟩, hb⟩ => ⟨as, PyProof.Rows.Reads.keeps (fun _ _ z => Heap.get?_push_of_some _ z) r, fun hm => ?_⟩
    obtain ⟨o, ho⟩ := reads_in _ _ _ (ok.al _ (List.mem_map.mpr ⟨b, hb, rfl⟩) _ (List.mem_map.mpr ⟨b, hb, rfl⟩)) r _ hm
    exact Nat.lt_irrefl _ (Heap.lt_size ho)
  refine wpAny_bind (wpAny_holding (PySem.W.list_sort_data (s := { s' with heap := s'.heap.push (seqObj "list" acc.toArray 0) }) hoL e er ok.al ok.so hz (fun b hb => ?_) fun out ho eo => ?_))
  · have := (sh_lay b 60 (ok.sh b hb)).2
    show X.A.units + 1 + 1 + _ < cLine
    omega
  · obtain ⟨ys', r', v'⟩ := std_back eo
    obtain ⟨ep, hat⟩ := PyProof.Rows.sortedHeap_at (vs := acc) (out := out.toArray) hoL
    refine wpAny_pure ⟨_, rfl, .ref s'.heap.objs.size, upd H s'.heap.objs.size (.lst ys'), I1.laid (t' := s'.toks) (fun b u e => ?_) (Nat.le_refl _)
      (show ObjOk X.prog X.w _ _ _ (.lst ys') from ⟨by rw [v'.length, ho]; exact hz, out, ep, v', hat⟩), rfl, q _ _ (I1.hok.fresh (Nat.le_refl _)) r'⟩
    have hb : b < s'.heap.objs.size := Heap.lt_size e
    rw [PyProof.Rows.sortedHeap_old (Nat.ne_of_lt hb) (by rw [size_push']; exact Nat.lt_succ_of_lt hb)]
    exact Heap.get?_push_of_some _ e
def gSorted : COp
  | [.lst l], k => SrtOk l ∧ ∀ a, k (.lst false a (sortD l))
  | [.tup l], k => SrtOk l ∧ ∀ a, k (.lst false a (sortD l))
  | [.dk ks _], k => SrtOk (ks.map kD) ∧ ∀ a, k (.lst false a (sortD (ks.map kD)))
  | _, _ => False
theorem ok_sorted (hu : X.A.units + 64 < cLine) (hc : X.calm = true := by rfl) (hK : X.K = c.K := by rfl) : CbOk X c (.builtin "sorted") gSorted := ⟨⟨fun vs H Q => ∃ F l x, vs = [x] ∧ Same F H ∧ SrtOk l ∧
    ((∃ a ys, x = .ref a ∧ (SqL X.K H a ys ∨ SqT X.K H a ys) ∧ RepL c.K F l ys) ∨ ∃ a ws, x = .ref a ∧ Rd H a (.dK ws) ∧ l = ws.map fun w => kD w.1) ∧ ∀ p ys, H p = none → RepL c.K F (sortD l) ys → Q (.ref p) (upd H p (.lst ys)), by
  intro pins s σ H vs us Q I r h0
  obtain ⟨F, l, x, rfl, sm, ok, h, q⟩ := h0
  obtain ⟨u, rfl, ru⟩ := vals1 r
  refine sorted_any0 hK hu sm ok (fun Q' h' => ?_) q
  have hz := lineM ok.sz
  rcases h with ⟨a, ys, rfl, hq, rl⟩ | ⟨a, ws, rfl, hd, hl⟩
  · obtain rfl : u = Value.ref a := ru
    rcases hq with hq | hq
    · obtain ⟨its, rv, p, z⟩ := I.list hq
      obtain ⟨o, ho, hcl, n, hdt⟩ := p.isList
      refine wpAny_collect_seq a (.inl rfl) ho hcl hdt (fun h2 k => ?_) (by simpa using (by rw [← rv.length]; exact z))
      exact h' _ ys _ (I.kept (t' := s.toks) k) (by simpa using rv) rl
    · obtain ⟨its, rv, p, z⟩ := I.tuple hq
      obtain ⟨o, ho, hcl, n, hdt⟩ := p
      refine wpAny_collect_seq a (.inr rfl) ho hcl hdt (fun h2 k => ?_) (by simpa using (by rw [← rv.length]; exact z))
      exact h' _ ys _ (I.kept (t' := s.toks) k) (by simpa using rv) rl
  · obtain rfl : u = Value.ref a := ru
    obtain ⟨z, lo, vs, rel, dd⟩ := dk_rd I.hok hd
    obtain ⟨ep, hat⟩ := dd.dictAt
    have hlv : vs.length = ws.length := rel.length.symm
    refine PySem.W.kdu_collect (A := X.A.in1) (PySem.W.kdl_dict (knd := mixKind X.prog X.w) (kvs := vs) (ep := ep) lo) (I.ok.hd hc) hat (by omega) fun h2 tk acc hk hacc => ?_
    refine h' _ ((ws.map (·.1)).map kV) _ (I.kept hk) (vals_keys _ _ (by rw [List.length_map, Array.length_toList, hacc.1, hlv]) fun j v k e1 e2 => ?_) ?_
    · obtain ⟨k2, x2, h1, h2⟩ := hacc.2 j v (by rw [← Array.getElem?_toList]; exact e1)
      rw [rel.keys, List.getElem?_map, h1] at e2
      cases e2
      exact relV_key (show keyIs _ _ = true from h2)
    · rw [hl, show (ws.map fun w => kD w.1) = (ws.map (·.1)).map kD by rw [List.map_map]; rfl]
      exact kDs_rep _, fun F H L vs ds Qd Q G rd q k => by
  unfold gSorted at q
  split at q
  · obtain ⟨x, rfl, a, xs, rfl, f, r⟩ := rdl1 rd
    exact ⟨F, _, _, rfl, G.sub, q.1, .inl ⟨a, xs, rfl, .inl (SqL.of f), r⟩, fun p ys hp ry => k _ _ _ _ (q.2 p) (G.newOwn hp ry)⟩
  · obtain ⟨x, rfl, a, xs, rfl, f, r⟩ := rdl1 rd
    exact ⟨F, _, _, rfl, G.sub, q.1, .inl ⟨a, xs, rfl, .inr (SqT.of (G.sub _ _ f)), r⟩, fun p ys hp ry => k _ _ _ _ (q.2 p) (G.newOwn hp ry)⟩
  · obtain ⟨x, rfl, a, ws, rfl, f, g, r⟩ := rdl1 rd
    exact ⟨F, _, _, rfl, G.sub, q.1, .inr ⟨a, ws, rfl, f, by rw [← g, List.map_map]; rfl⟩, fun p ys hp ry => k _ _ _ _ (q.2 p) (G.newOwn hp ry)⟩
  · exact q.elim⟩⟩
end
end Dl
/-! ## repr, == of texts too, enumerate, zip -/
namespace Dl
open PySem PySem.Spec PyProof.Rows
open L2
def reprD (d : D) : Str := (toP d).shown
structure RpOk (d : D) : Prop where
  sh : Dl.sh d 60 = true
  sw : (toP d).showable = true
  sz : (toP d).shown.length ≤ 1000000
def gRepr : COp
  | [d], k => RpOk d ∧ k (.dat (.str (reprD d)))
  | _, _ => False
section
variable {X : Cx} {c : Cn} {K : PySem.W.Frag} {F H : Hp}
theorem ok_repr (hu : X.A.units + 65 < cLine) (hgd : X.A.guards = some []) (hK : X.K = c.K := by rfl) : CbOk X c (.builtin "repr") gRepr := ⟨⟨fun vs H Q => ∃ x d, vs = [x] ∧ Dp X.K H x (toP d) ∧ RpOk d ∧ Q (.str (reprD d)) H, by
  intro pins s σ H vs us Q I r h0
  obtain ⟨x, d, rfl, rd, ok, q⟩ := h0
  obtain ⟨u, rfl, ru⟩ := vals1 r
  have hz := lineM ok.sz
  have dep := (sh_lay d 60 ok.sh).2
  obtain ⟨as, rr⟩ := Dp.reads I _ _ _ rd ru
  have fin : ∀ (h' : Heap) (u : Tok) (tk : Nat), (∀ b o, s.heap.get? b = some o → h'.get? b = some o) → EP X pins σ Q (.str (toP d).shown u) { s with heap := h', toks := tk } := fun h' u tk k => ⟨.str (reprD d), H, I.kept k, ⟨u, rfl⟩, q⟩
  have sw := ok.sw
  cases d with
  | non =>
    cases rr
    exact P.repr_of_none (fin s.heap _ _ fun _ _ e => e)
  | bl b =>
    cases rr
    exact P.repr_of_bool (fin s.heap _ _ fun _ _ e => e)
  | int i =>
    cases rr
    exact P.repr_of_int (by simpa [toP, PyData.showable] using sw) (fin s.heap _ _ fun _ _ e => e)
  | str z =>
    cases rr
    exact P.repr_of_str (fin s.heap _ _ fun _ _ e => e) hz
  | tup l =>
    have e0 : ∃ a, u = .ref a := by
      simp only [toP] at rr
      cases rr
      exact ⟨_, rfl⟩
    obtain ⟨a, rfl⟩ := e0
    exact repr_of_reads' rr sw (PyData.noDict_hsm (PyData.hasDict_of_canLay _ (sh_lay _ 60 ok.sh).1)) hgd (by omega) (fun _ _ e => e) (fun h' u tk k => fin h' u tk k) hz
  | lst l =>
    have e0 : ∃ a, u = .ref a := by
      simp only [toP] at rr
      cases rr
      exact ⟨_, rfl⟩
    obtain ⟨a, rfl⟩ := e0
    exact repr_of_reads' rr sw (PyData.noDict_hsm (PyData.hasDict_of_canLay _ (sh_lay _ 60 ok.sh).1)) hgd (by omega) (fun _ _ e => e) (fun h' u tk k => fin h' u tk k) hz
  | dk _ _ => exact absurd ok.sh Bool.false_ne_true
  | dt _ _ => exact absurd ok.sh Bool.false_ne_true
  | scr _ => exact absurd ok.sh Bool.false_ne_true, fun F H L vs ds Qd Q G rd q k => by
  unfold gRepr at q
  split at q
  · rename_i d
    obtain ⟨x, rfl, r⟩ := rdl1 rd
    exact ⟨x, d, rfl, by rw [hK]; exact dp_read G.sub q.1.sh r, q.1, k _ _ _ _ q.2 (G.also (r := .dat (.str (reprD d))) rfl rfl)⟩
  · exact q.elim⟩⟩
/-! ### texts compared, whatever signs they have -/
def gEqA : BOp := fun d e k => match d, e with
  | .str a, .str b => k (.dat (.bl (decide (a = b))))
  | d, e => gEq d e k
def gNeA : BOp := fun d e k => match d, e with
  | .str a, .str b => k (.dat (.bl (!decide (a = b))))
  | d, e => gNe d e k
theorem ok_eqA (hu : X.A.units + 64 < cLine) (hK : X.K = c.K := by rfl) : OpOk X c (compareOp .Eq) gEqA := by
  obtain ⟨rr, h1, h2⟩ := (ok_eq (c := c) hu hK).ex
  refine ⟨⟨_, op_eq.or h1, fun F H L x y d e Qd Q G rd re q k => ?_⟩⟩
  unfold gEqA at q
  split at q
  · rename_i a b
    refine .inl ?_
    rw [show x = .str a from rd, show y = .str b from re]
    exact ⟨rfl, k _ _ _ _ q (G.also (r := .dat (.bl (decide (a = b)))) (by show V.bl _ = V.bl _; simp) rfl)⟩
  · exact .inr (h2 F H L x y d e Qd Q G rd re q k)
theorem ok_neA (hu : X.A.units + 64 < cLine) (hK : X.K = c.K := by rfl) : OpOk X c (compareOp .NotEq) gNeA := by
  obtain ⟨rr, h1, h2⟩ := (ok_ne (c := c) hu hK).ex
  refine ⟨⟨_, op_ne.or h1, fun F H L x y d e Qd Q G rd re q k => ?_⟩⟩
  unfold gNeA at q
  split at q
  · rename_i a b
    refine .inl ?_
    rw [show x = .str a from rd, show y = .str b from re]
    exact ⟨rfl, k _ _ _ _ q (G.also (r := .dat (.bl (!decide (a = b)))) (by show V.bl _ = V.bl _; simp) rfl)⟩
  · exact .inr (h2 F H L x y d e Qd Q G rd re q k)
end
end Dl
/-! ## promises by data; rules for loops -/
namespace Dl
open PySem PySem.Spec PyProof.Rows
open L2
def finD (k : Ar → Prop) : SE := ⟨fun _ => k (.dat .non), fun r Γ => retR r Γ k⟩
abbrev PD := List D → (Ar → Prop) → Prop
def datS (P : PD) : Spec := fun as k => ∃ ds, as = ds.map Ar.dat ∧ P ds fun o => k o []
theorem lefts_dat (Γ : Gm) : ∀ (ds : List D) (i : Nat) (k : List Ar → Prop), lefts Γ (ds.map R.dat) i k = k []
  | [], _, _ => rfl
  | d :: ds, i, k => lefts_dat Γ ds (i + 1) k
theorem arRs_dats : ∀ {ds : List D} {rs : List R}, ArRs (ds.map Ar.dat) rs → rs = ds.map R.dat
  | [], _, h => by cases h; rfl
  | d :: ds, _, h => by
    cases h with
    | cons h1 h2 =>
      cases h1
      rw [arRs_dats h2]
      rfl
theorem vc_dat {n m : Nat} {wb : WS} {P : PD} (h : ∀ ds k, ds.length = n → P ds k → wb (finD k) (gm0 m (ds.map R.dat))) : ∀ as rs Qd, ArRs as rs → rs.length = n → datS P as Qd → wb (fin rs Qd) (gm0 m rs) := by
  rintro as rs Qd har hl ⟨ds, rfl, hp⟩
  obtain rfl := arRs_dats har
  have e : fin (ds.map R.dat) Qd = finD fun o => Qd o [] := by
    unfold fin finD
    simp only [lefts_dat]
  rw [e]
  exact h ds _ (by simpa using hl) hp
theorem datS_0 (P : PD) (Q : Ar → List Ar → Prop) : datS P [] Q = P [] fun o => Q o [] := propext ⟨fun ⟨ds, e, h⟩ => by
  cases ds with
  | nil => exact h
  | cons d ds => simp at e, fun h => ⟨[], rfl, h⟩⟩
theorem ar_inj : ∀ {l m : List D}, l.map Ar.dat = m.map Ar.dat → l = m
  | [], [], _ => rfl
  | [], _ :: _, h => by simp at h
  | _ :: _, [], h => by simp at h
  | a :: l, b :: m, h => by
    simp only [List.map_cons, List.cons.injEq, Ar.dat.injEq] at h
    rw [h.1, ar_inj h.2]
theorem datS_n (P : PD) (l : List D) (Q : Ar → List Ar → Prop) : datS P (l.map Ar.dat) Q = P l fun o => Q o [] := propext ⟨fun ⟨ds, e, h⟩ => by rw [ar_inj e]; exact h, fun h => ⟨l, rfl, h⟩⟩
theorem datS_1 (P : PD) (a : D) (Q : Ar → List Ar → Prop) : datS P [.dat a] Q = P [a] fun o => Q o [] := datS_n P [a] Q
theorem datS_2 (P : PD) (a b : D) (Q : Ar → List Ar → Prop) : datS P [.dat a, .dat b] Q = P [a, b] fun o => Q o [] := datS_n P [a, b] Q
theorem datS_3 (P : PD) (a b c : D) (Q : Ar → List Ar → Prop) : datS P [.dat a, .dat b, .dat c] Q = P [a, b, c] fun o => Q o [] := datS_n P [a, b, c] Q
theorem datS_4 (P : PD) (a b c d : D) (Q : Ar → List Ar → Prop) : datS P [.dat a, .dat b, .dat c, .dat d] Q = P [a, b, c, d] fun o => Q o [] := datS_n P [a, b, c, d] Q
theorem datS_5 (P : PD) (a b c d e : D) (Q : Ar → List Ar → Prop) : datS P [.dat a, .dat b, .dat c, .dat d, .dat e] Q = P [a, b, c, d, e] fun o => Q o [] := datS_n P [a, b, c, d, e] Q
theorem len1 {α : Type} {l : List α} (h : l.length = 1) : ∃ a, l = [a] := List.length_eq_one_iff.mp h
theorem len2 {α : Type} {l : List α} (h : l.length = 2) : ∃ a b, l = [a, b] := by
  match l, h with
  | [a, b], _ => exact ⟨a, b, rfl⟩
theorem len3 {α : Type} {l : List α} (h : l.length = 3) : ∃ a b c, l = [a, b, c] := by
  match l, h with
  | [a, b, c], _ => exact ⟨a, b, c, rfl⟩
theorem len4 {α : Type} {l : List α} (h : l.length = 4) : ∃ a b c d, l = [a, b, c, d] := by
  match l, h with
  | [a, b, c, d], _ => exact ⟨a, b, c, d, rfl⟩
theorem gm0_1 (n : Nat) (r : R) : gm0 (n + 1) [r] = some r :: List.replicate n none := rfl
def leftH (Γ : Gm) (a : Addr) (k : List D → Prop) : Prop := match nth Γ 0 with
  | some (.lst true b l) => b = a ∧ k l
  | _ => False
/-- the first argument a list that is lent -/
abbrev PH := List D → List D → (Ar → List D → Prop) → Prop
def hanS (P : PH) : Spec := fun as k => ∃ l ds, as = .lst l :: ds.map Ar.dat ∧ P l ds fun o l' => k o [.lst l']
def finH (a : Addr) (k : Ar → List D → Prop) : SE := ⟨fun Γ => leftH Γ a fun l => k (.dat .non) l, fun r Γ => retR r Γ fun o => leftH Γ a fun l => k o l⟩
theorem vc_han {n m : Nat} {wb : WS} {P : PH} (h : ∀ a l ds k, ds.length + 1 = n → P l ds k → wb (finH a k) (gm0 m (.lst true a l :: ds.map R.dat))) : ∀ as rs Qd, ArRs as rs → rs.length = n → hanS P as Qd → wb (fin rs Qd) (gm0 m rs) := by
  rintro as rs Qd har hl ⟨l, ds, rfl, hp⟩
  cases har with
  | cons h1 h2 =>
    cases h1 with
    | lst a =>
      obtain rfl := arRs_dats h2
      have e : fin (.lst true a l :: ds.map R.dat) Qd = finH a fun o l' => Qd o [.lst l'] := by
        have z : ∀ (Γ : Gm) (k : List Ar → Prop), lefts Γ (.lst true a l :: ds.map R.dat) 0 k = leftH Γ a fun l' => k [.lst l'] := fun Γ k => by
          unfold leftH
          show (match nth Γ 0 with
            | some (.lst true b l) => b = a ∧ lefts Γ (ds.map R.dat) (0 + 1) fun as => k (.lst l :: as)
            | _ => False) = _
          simp only [lefts_dat]
        unfold fin finH
        simp only [z]
      rw [e]
      exact h a l ds _ (by simpa using hl) hp
theorem hanS_n (P : PH) (l : List D) (ds : List D) (Q : Ar → List Ar → Prop) : hanS P (.lst l :: ds.map Ar.dat) Q = P l ds fun o l' => Q o [.lst l'] := propext ⟨fun ⟨l', ds', e, h⟩ => by
  simp only [List.cons.injEq, Ar.lst.injEq] at e
  rw [e.1, ar_inj e.2]
  exact h, fun h => ⟨l, ds, rfl, h⟩⟩
theorem hanS_0 (P : PH) (l : List D) (Q : Ar → List Ar → Prop) : hanS P [.lst l] Q = P l [] fun o l' => Q o [.lst l'] := hanS_n P l [] Q
theorem hanS_1 (P : PH) (l : List D) (a : D) (Q : Ar → List Ar → Prop) : hanS P [.lst l, .dat a] Q = P l [a] fun o l' => Q o [.lst l'] := hanS_n P l [a] Q
theorem hanS_2 (P : PH) (l : List D) (a b : D) (Q : Ar → List Ar → Prop) : hanS P [.lst l, .dat a, .dat b] Q = P l [a, b] fun o l' => Q o [.lst l'] := hanS_n P l [a, b] Q
theorem hanS_3 (P : PH) (l : List D) (a b c : D) (Q : Ar → List Ar → Prop) : hanS P [.lst l, .dat a, .dat b, .dat c] Q = P l [a, b, c] fun o l' => Q o [.lst l'] := hanS_n P l [a, b, c] Q
theorem mono_han {P : PH} (h : ∀ l ds k k', (∀ o l', k o l' → k' o l') → P l ds k → P l ds k') : Mono (hanS P) := by
  rintro as Q Q' hq ⟨l, ds, e, hp⟩
  exact ⟨l, ds, e, h l ds _ _ (fun o l' => hq _ _) hp⟩
/-! ### loops -/
theorem loop_rule {gd : Gm → Prop} {g : WG} {wb : WS} {E : SE} (I : List D → Gm → Prop) (hg : ∀ r Γ, I r Γ → gd Γ) (hn : ∀ Γ, I [] Γ → E.nx Γ)
    (hs : ∀ d r Γ (K : Gm → Prop), I (d :: r) Γ → (∀ Γ', I r Γ' → K Γ') → g (.dat d) Γ fun Γ1 => wb ⟨K, E.rt⟩ Γ1) : ∀ items Γ, I items Γ → wLoop gd g wb items E Γ
  | [], Γ, h => ⟨hg _ _ h, hn _ h⟩
  | d :: ds, Γ, h => ⟨hg _ _ h, hs d ds Γ _ h fun Γ' h' => loop_rule I hg hn hs ds Γ' h'⟩
theorem while_rule {tc : WT} {wb : WS} {E : SE} (I : Nat → Gm → Prop) (hs : ∀ n Γ (K : Gm → Prop), I n Γ → (∀ m Γ', m < n → I m Γ' → K Γ') → tc Γ fun b Γ1 => match b with
    | true => wb ⟨K, E.rt⟩ Γ1
    | false => E.nx Γ1) (n : Nat) (Γ : Gm) (h : I n Γ) : wWhile tc wb E Γ := by
  have go : ∀ (k m : Nat) (Γ : Gm), m < k → I m Γ → wWhileN tc wb k E Γ := by
    intro k
    induction k with
    | zero => intro m Γ hm; omega
    | succ k ih =>
      intro m Γ hm hi
      exact hs m Γ (fun Γ' => wWhileN tc wb k E Γ') hi fun m' Γ' hlt hi' => ih m' Γ' (by omega) hi'
  exact ⟨n + 1, go _ n Γ (by omega) h⟩
theorem lc_rule {vs : List Nat} {gd : Gm → Prop} {g : WG} {wt : WT} {we : W} {Q : List D → Gm → Prop} (I : List D → List D → Gm → Prop) (hg : ∀ r acc Γ, I r acc Γ → gd Γ) (hn : ∀ acc Γ, I [] acc Γ → Q acc Γ)
    (hs : ∀ d r acc Γ (K : List D → Gm → Prop), I (d :: r) acc Γ → (∀ acc' Γ', I r acc' Γ' → K acc' Γ') → g (.dat d) Γ fun Γ1 => wt Γ1 fun t Γ2 => match t with
      | true => we Γ2 fun r Γ3 => take r Γ3 fun e Γ4 => acc.length < 1000000 ∧ K (acc ++ [e]) (wipeG Γ4 vs)
      | false => K acc (wipeG Γ2 vs)) : ∀ items acc Γ, I items acc Γ → lcLoop vs gd g wt we items acc Γ Q
  | [], acc, Γ, h => ⟨hg _ _ _ h, hn _ _ h⟩
  | d :: ds, acc, Γ, h => ⟨hg _ _ _ h, hs d ds acc Γ (fun acc' Γ' => lcLoop vs gd g wt we ds acc' Γ' Q) h fun acc' Γ' h' => lc_rule I hg hn hs ds acc' Γ' h'⟩
theorem dc_rule {κ : Type} [DecidableEq κ] {N : Kin κ} {vs : List Nat} {gd : Gm → Prop} {g : WG} {wt : WT} {wk wv : W} {Q : List (κ × D) → Gm → Prop} (I : List D → List (κ × D) → Gm → Prop) (hg : ∀ r acc Γ, I r acc Γ → gd Γ) (hn : ∀ acc Γ, I [] acc Γ → Q acc Γ)
    (hs : ∀ d r acc Γ (K : List (κ × D) → Gm → Prop), I (d :: r) acc Γ → (∀ acc' Γ', I r acc' Γ' → K acc' Γ') → g (.dat d) Γ fun Γ1 => wt Γ1 fun t Γ2 => match t with
      | true => wk Γ2 fun rk Γ3 => take rk Γ3 fun kd Γ4 => wv Γ4 fun rv Γ5 => take rv Γ5 fun vd Γ6 => someK (N.kf kd) fun q => acc.length < 1000000 ∧ K (putA acc q vd) (wipeG Γ6 vs)
      | false => K acc (wipeG Γ2 vs)) : ∀ items acc Γ, I items acc Γ → dcLoop N vs gd g wt wk wv items acc Γ Q
  | [], acc, Γ, h => ⟨hg _ _ _ h, hn _ _ h⟩
  | d :: ds, acc, Γ, h => ⟨hg _ _ _ h, hs d ds acc Γ (fun acc' Γ' => dcLoop N vs gd g wt wk wv ds acc' Γ' Q) h fun acc' Γ' h' => dc_rule I hg hn hs ds acc' Γ' h'⟩
/-- a comprehension that leaves the slots as they are -/
theorem lc_fm {vs : List Nat} {gd : Gm → Prop} {g : WG} {wt : WT} {we : W} {Q : List D → Gm → Prop} (f : D → Option D) (Γ : Gm) (items : List D) (hl : items.length ≤ 1000000) (hgd : gd Γ)
    (hs : ∀ d ∈ items, ∀ K : Option D → Gm → Prop, K (f d) Γ → g (.dat d) Γ fun Γ1 => wt Γ1 fun t Γ2 => match t with
      | true => we Γ2 fun r Γ3 => take r Γ3 fun e Γ4 => K (some e) (wipeG Γ4 vs)
      | false => K none (wipeG Γ2 vs)) (hq : Q (items.filterMap f) Γ) : lcLoop vs gd g wt we items [] Γ Q := by
  have go : ∀ (r pre acc : List D), items = pre ++ r → acc = pre.filterMap f → lcLoop vs gd g wt we r acc Γ Q := by
    intro r
    induction r with
    | nil =>
      rintro pre acc e rfl
      rw [List.append_nil] at e
      subst e
      exact ⟨hgd, hq⟩
    | cons d r ih =>
      rintro pre acc e rfl
      have hlen : (pre.filterMap f).length < 1000000 := by
        have h1 := List.length_filterMap_le f pre
        have h2 := congrArg List.length e
        simp only [List.length_append, List.length_cons] at h2
        omega
      refine ⟨hgd, hs d (by rw [e]; simp) (fun o Γ' => match o with
        | some x => (pre.filterMap f).length < 1000000 ∧ lcLoop vs gd g wt we r (pre.filterMap f ++ [x]) Γ' Q
        | none => lcLoop vs gd g wt we r (pre.filterMap f) Γ' Q) ?_⟩
      cases h : f d with
      | none => exact ih (pre ++ [d]) _ (by rw [e]; simp) (by simp [h])
      | some x => exact ⟨hlen, ih (pre ++ [d]) _ (by rw [e]; simp) (by simp [h])⟩
  exact go items [] [] rfl rfl
theorem lc_map {vs : List Nat} {gd : Gm → Prop} {g : WG} {wt : WT} {we : W} {Q : List D → Gm → Prop} (f : D → D) (Γ : Gm) (items : List D) (hl : items.length ≤ 1000000) (hgd : gd Γ)
    (hs : ∀ d ∈ items, ∀ K : Option D → Gm → Prop, K (some (f d)) Γ → g (.dat d) Γ fun Γ1 => wt Γ1 fun t Γ2 => match t with
      | true => we Γ2 fun r Γ3 => take r Γ3 fun e Γ4 => K (some e) (wipeG Γ4 vs)
      | false => K none (wipeG Γ2 vs)) (hq : Q (items.map f) Γ) : lcLoop vs gd g wt we items [] Γ Q := by
  refine lc_fm (fun d => some (f d)) Γ items hl hgd hs ?_
  rw [show items.filterMap (fun d => some (f d)) = items.map f by simp [List.filterMap_eq_map', Function.comp_def]]
  exact hq
theorem putA_new {κ : Type} [DecidableEq κ] {l : List (κ × D)} {k : κ} {d : D} (h : lookA l k = none) : putA l k d = l ++ [(k, d)] := by
  unfold putA
  rw [h]
  rfl
theorem lookA_none {κ : Type} [DecidableEq κ] : ∀ {l : List (κ × D)} {k : κ}, k ∉ l.map (·.1) → lookA l k = none
  | [], _, _ => rfl
  | p :: l, k, h => by
    simp only [List.map_cons, List.mem_cons, not_or] at h
    unfold lookA
    rw [if_neg fun e => h.1 e.symm]
    exact lookA_none h.2
theorem unit65 {A : Around} {k : Nat} (h : Room k A) : A.units + 65 < cLine := by
  have := h.un
  omega
end Dl
/-! ## the package's common words, over data -/
namespace Dl
open PySem PySem.Spec PyProof.Rows
open L2
mutual
/-- what isinstance can be asked of, all the way down -/
def pl : D → Bool
  | .tup l => pls l
  | .lst l => pls l
  | .dt _ _ => false
  | .scr _ => false
  | _ => true
def pls : List D → Bool
  | [] => true
  | d :: l => pl d && pls l
end
theorem pls_mem : ∀ {l : List D} {d : D}, pls l = true → d ∈ l → pl d = true
  | [], _, _, h => by simp at h
  | e :: l, d, h, hm => by
    rw [pls, Bool.and_eq_true] at h
    rcases List.mem_cons.mp hm with rfl | hm
    · exact h.1
    · exact pls_mem h.2 hm
/-- the condition of isinstance -/
def isiOk (d : D) : Prop := match d with
  | .scr _ => False
  | .dt _ _ => False
  | _ => True
theorem pl_isi {d : D} (h : pl d = true) : isiOk d := by
  cases d with
  | scr l => rw [pl] at h; exact absurd h Bool.false_ne_true
  | dt k l => rw [pl] at h; exact absurd h Bool.false_ne_true
  | _ => exact True.intro
def isInt : D → Bool
  | .int _ => true
  | _ => false
theorem isInt_is (d : D) : (isT "int" d && !isT "bool" d) = isInt d := by cases d <;> rfl
def within (d : D) (lo hi : Int) : Bool := match d with
  | .int i => decide (lo ≤ i) && decide (i ≤ hi)
  | _ => false
def isDot : D → Bool
  | .tup [a, b] => within a (-10000) 10000 && within b (-10000) 10000
  | _ => false
/-- a dot -/
def dotD (p : Int × Int) : D := .tup [.int p.1, .int p.2]
theorem isDot_eq {d : D} (h : isDot d = true) : ∃ p : Int × Int, d = dotD p ∧ -10000 ≤ p.1 ∧ p.1 ≤ 10000 ∧ -10000 ≤ p.2 ∧ p.2 ≤ 10000 := by
  unfold isDot at h
  split at h
  · rename_i a b
    rw [Bool.and_eq_true] at h
    cases a <;> try (exact absurd h.1 Bool.false_ne_true)
    cases b <;> try (exact absurd h.2 Bool.false_ne_true)
    rename_i x y
    simp only [within, Bool.and_eq_true, decide_eq_true_eq] at h
    exact ⟨(x, y), rfl, h.1.1, h.1.2, h.2.1, h.2.2⟩
  · exact absurd h Bool.false_ne_true
theorem dot_isDot {p : Int × Int} (h : -10000 ≤ p.1 ∧ p.1 ≤ 10000 ∧ -10000 ≤ p.2 ∧ p.2 ≤ 10000) : isDot (dotD p) = true := by
  simp [isDot, dotD, within]
  omega
def crowdD (c : List (Int × Int)) : D := .tup (c.map dotD)
def keyP (p : Int × Int) : List Key := [.inl p.1, .inl p.2]
theorem keyP_inj {p q : Int × Int} (h : keyP p = keyP q) : p = q := by
  simp only [keyP, List.cons.injEq, and_true] at h
  exact Prod.ext (Sum.inl.inj h.1) (Sum.inl.inj h.2)
@[simp] theorem tkD_dot (p : Int × Int) : tkD (dotD p) = some (keyP p) := rfl
/-- is_crowd -/
def isCrowd : D → Bool
  | .tup l => (decide (3 ≤ l.length) && decide (l.length ≤ 12)) && (l.all isDot && decide ((l.map fun d => (tkD d).getD []).Nodup))
  | _ => false
structure CrowdOk (c : List (Int × Int)) : Prop where
  few : 3 ≤ c.length
  many : c.length ≤ 12
  box : ∀ p ∈ c, -10000 ≤ p.1 ∧ p.1 ≤ 10000 ∧ -10000 ≤ p.2 ∧ p.2 ≤ 10000
  nd : c.Nodup
/-- how many keys a dict has that is made of keys -/
def many {κ : Type} [DecidableEq κ] : List κ → List κ → Nat
  | _, [] => 0
  | seen, k :: l => (if k ∈ seen then 0 else 1) + many (k :: seen) l
theorem many_le {κ : Type} [DecidableEq κ] : ∀ (l seen : List κ), many seen l ≤ l.length
  | [], _ => Nat.le_refl _
  | k :: l, seen => by
    have := many_le l (k :: seen)
    rw [many, List.length_cons]
    split <;> omega
theorem many_eq {κ : Type} [DecidableEq κ] : ∀ (l seen : List κ), many seen l = l.length ↔ l.Nodup ∧ ∀ k ∈ l, k ∉ seen
  | [], _ => by simp [many]
  | k :: l, seen => by
    have h1 := many_le l (k :: seen)
    have ih := many_eq l (k :: seen)
    rw [many, List.length_cons, List.nodup_cons]
    by_cases hk : k ∈ seen
    · rw [if_pos hk]
      refine ⟨fun h => by omega, fun h => absurd hk (h.2 k (by simp))⟩
    · rw [if_neg hk]
      refine ⟨fun h => ?_, fun h => ?_⟩
      · have z := ih.mp (by omega)
        refine ⟨⟨fun hm => ?_, z.1⟩, fun q hq => ?_⟩
        · exact z.2 k hm (by simp)
        · rcases List.mem_cons.mp hq with rfl | hq
          · exact hk
          · exact fun hs => z.2 q hq (List.mem_cons_of_mem _ hs)
      · have := ih.mpr ⟨h.1.2, fun q hq hs => ?_⟩
        · omega
        · rcases List.mem_cons.mp hs with rfl | hs
          · exact h.1.1 hq
          · exact h.2 q (List.mem_cons_of_mem _ hq) hs
theorem lookA_mem {κ : Type} [DecidableEq κ] : ∀ {l : List (κ × D)} {k : κ}, (lookA l k).isSome = true ↔ k ∈ l.map (·.1)
  | [], _ => by simp [lookA]
  | p :: l, k => by
    unfold lookA
    by_cases e : p.1 = k
    · simp [e]
    · rw [if_neg e, lookA_mem]
      simp [Ne.symm e]
theorem setA_keys {κ : Type} [DecidableEq κ] : ∀ (l : List (κ × D)) (k : κ) (d : D), (setA l k d).map (·.1) = l.map (·.1)
  | [], _, _ => rfl
  | p :: l, k, d => by
    simp only [setA, List.map_cons, setA_keys l k d]
    by_cases e : p.1 = k
    · rw [if_pos e]
    · rw [if_neg e]
theorem putA_keys {κ : Type} [DecidableEq κ] (l : List (κ × D)) (k : κ) (d : D) : (putA l k d).map (·.1) = if k ∈ l.map (·.1) then l.map (·.1) else l.map (·.1) ++ [k] := by
  unfold putA
  by_cases h : (lookA l k).isSome = true
  · rw [if_pos h, if_pos (lookA_mem.mp h), setA_keys]
  · rw [if_neg h, if_neg (fun z => h (lookA_mem.mpr z))]
    simp
theorem take_dat (d : D) (Γ : Gm) (k : D → Gm → Prop) : take (.dat d) Γ k = k d Γ := rfl
/-- {one: True for one in dots}: its length -/
theorem many_congr {κ : Type} [DecidableEq κ] : ∀ (l s s' : List κ), (∀ k, k ∈ s ↔ k ∈ s') → many s l = many s' l
  | [], _, _, _ => rfl
  | k :: l, s, s', h => by
    rw [many, many, many_congr l (k :: s) (k :: s') (fun q => by simp [h q])]
    by_cases hk : k ∈ s
    · rw [if_pos hk, if_pos ((h k).mp hk)]
    · rw [if_neg hk, if_neg (fun z => hk ((h k).mpr z))]
theorem dots_dict {gd : Gm → Prop} {Γ0 : Gm} {Q : List (List Key × D) → Gm → Prop} (c : List (Int × Int)) (hc : c.length ≤ 1000000) (hgd : gd Γ0) {g : WG} {wk : W} {vs : List Nat}
    (hs : ∀ p ∈ c, ∀ K : List (List Key × D) → Gm → Prop, ∀ acc : List (List Key × D), acc.length < 1000000 → K (putA acc (keyP p) (.bl true)) Γ0 → g (.dat (dotD p)) Γ0 fun Γ1 => wk Γ1 fun rk Γ3 => take rk Γ3 fun kd Γ4 => someK (tkD kd) fun q => acc.length < 1000000 ∧ K (putA acc q (.bl true)) (wipeG Γ4 vs))
    (hq : ∀ acc : List (List Key × D), acc.length = many [] (c.map keyP) → Q acc Γ0) : dcLoop KinT vs gd g wYes wk (wD (.bl true)) (c.map dotD) [] Γ0 Q := by
  have go : ∀ (r : List (Int × Int)) (acc : List (List Key × D)), (∀ p ∈ r, p ∈ c) → acc.length + r.length ≤ c.length → acc.length + many (acc.map (·.1)) (r.map keyP) = many [] (c.map keyP) → dcLoop KinT vs gd g wYes wk (wD (.bl true)) (r.map dotD) acc Γ0 Q := by
    intro r
    induction r with
    | nil => exact fun acc _ _ h => ⟨hgd, hq acc (by simpa [many] using h)⟩
    | cons p r ih =>
      intro acc hm hl h
      simp only [List.length_cons] at hl
      refine ⟨hgd, ?_⟩
      simp only [wYes, wD, take_dat]
      refine hs p (hm p (by simp)) (fun acc' Γ' => dcLoop KinT vs gd g wYes wk (wD (.bl true)) (r.map dotD) acc' Γ' Q) acc (by omega) (ih _ (fun q hq => hm q (by simp [hq])) ?_ ?_)
      · have z := congrArg List.length (putA_keys acc (keyP p) (.bl true))
        rw [List.length_map] at z
        rw [z]
        split <;> simp <;> omega
      · have z := putA_keys acc (keyP p) (.bl true)
        have z2 := congrArg List.length z
        rw [List.length_map] at z2
        rw [z2, z]
        simp only [List.map_cons, many] at h
        by_cases hk : keyP p ∈ acc.map (·.1)
        · have e := many_congr (r.map keyP) (keyP p :: acc.map (·.1)) (acc.map (·.1)) fun q => by
            simp only [List.mem_cons]
            exact ⟨fun w => w.elim (fun e => by rw [e]; exact hk) id, .inr⟩
          rw [if_pos hk, e] at h
          rw [if_pos hk, List.length_map]
          omega
        · have e := many_congr (r.map keyP) (keyP p :: acc.map (·.1)) (acc.map (·.1) ++ [keyP p]) fun q => by
            simp only [List.mem_cons, List.mem_append, List.not_mem_nil, or_false]
            exact or_comm
          rw [if_neg hk, e] at h
          rw [if_neg hk, List.length_append, List.length_map]
          simp only [List.length_cons, List.length_nil]
          omega
  exact go c [] (fun p h => h) (by simp) (by simp)
theorem many_dots (c : List (Int × Int)) : many [] (c.map keyP) = c.length ↔ c.Nodup := by
  have h := many_eq (c.map keyP) []
  rw [List.length_map] at h
  rw [h]
  refine ⟨fun z => ?_, fun z => ⟨List.pairwise_map.mpr (z.imp fun h e => h (keyP_inj e)), by simp⟩⟩
  exact (List.pairwise_map.mp z.1).imp fun h e => h (by rw [e])
/-! ### the hand -/
structure HandOk (l : List D) : Prop where
  ex : ∃ (cs : List Int) (at' big mix cnt : Int), l = [.lst (cs.map D.int), .int at', .int big, .int mix, .int cnt] ∧ 0 ≤ at' ∧ 0 ≤ big ∧ (∀ c ∈ cs, 0 ≤ c) ∧ cs.length ≤ 63
theorem fm_bound (a : Int) {b : Int} (h : 0 < b) : 0 ≤ a.fmod b ∧ a.fmod b < b := ⟨Int.fmod_nonneg_of_pos a h, Int.fmod_lt_of_pos a h⟩
theorem fm_small (a : Int) {m : Int} (h : 0 < m) (h2 : m ≤ 9223372036854775807) : (a.fmod m).natAbs < 9223372036854775808 := by
  have := fm_bound a h
  omega
theorem hand_new {l : List D} (cs : List Int) {m : Int} (e : l = cs.map D.int) (h : ∀ c ∈ cs, 0 ≤ c) (h2 : cs.length ≤ 63) : HandOk [.lst l, .int 0, .int 0, .int m, .int 0] :=
  ⟨cs, 0, 0, m, 0, by rw [e], by decide, by decide, h, h2⟩
end Dl
/-! ## three names at once -/
namespace Dl
open PySem PySem.Spec PyProof.Rows
open L2
section
variable {X : Cx} {c : Cn} {a b : Expr} {σ : L2.St} {H : Hp} {Γ : Gm} {T : Ls} {wa wb wc : W} {pos : Pos}
/-- a, b, c = x, y, z: kept as they come -/
def wPar3 (i j l : Nat) (wa wb wc : W) : WS := fun E Γ => wa Γ fun r1 Γ1 => wb Γ1 fun r2 Γ2 => wc Γ2 fun r3 Γ3 => stN l r3 Γ3 fun Γ4 => stN j r2 Γ4 fun Γ5 => stN i r1 Γ5 E.nx
theorem psd_par3 {i j l : Nat} {d : Expr} {x y z : Str} {px py pz pt : Pos} {kt k2 pt2} (hc : X.calm = true) (hN : X.N.Nodup) (ha : PE X a (lift c wa)) (hb : PE X b (lift c wb)) (hd : PE X d (lift c wc)) (hij : i ≠ j := by decide) (hil : i ≠ l := by decide) (hjl : j ≠ l := by decide)
    (hi : X.N[i]? = some x := by rfl) (hj : X.N[j]? = some y := by rfl) (hl : X.N[l]? = some z := by rfl)
    (hx : X.env.scope.names.lookup x = some .local := by rfl) (hy : X.env.scope.names.lookup y = some .local := by rfl) (hz : X.env.scope.names.lookup z = some .local := by rfl)
    (hw : swappedStores [.Tuple [.Name x px, .Name y py, .Name z pz] kt pt] (.Tuple [a, b, d] k2 pt2) X.env = pure (some [x, y, z]) := by rfl)
    (hs : swapsWithSole [.Tuple [.Name x px, .Name y py, .Name z pz] kt pt] (.Tuple [a, b, d] k2 pt2) pos.line X.env = pure false := by rfl)
    (hs1 : starEach [a, b, d] X.env = (false, eval a X.env) :: starEach [b, d] X.env := by rfl) (hs2 : starEach [b, d] X.env = (false, eval b X.env) :: starEach [d] X.env := by rfl) (hs3 : starEach [d] X.env = (false, eval d X.env) :: starEach [] X.env := by rfl) :
    PS X (.Assign [.Tuple [.Name x px, .Name y py, .Name z pz] kt pt] (.Tuple [a, b, d] k2 pt2) pos) (liftS c (wPar3 i j l wa wb wc)) :=
  (ps_par3 hc hN hi hj hl hij hil hjl hx hy hz (pa_cons ha (pa_cons hb (pa_cons hd pa_nil hs3) hs2) hs1) hw hs).imp fun E σ H ⟨Γ, T, Ed, hR, hw, k1, k2⟩ => by
    refine ⟨Γ, T, _, hR, hw, fun r1 Γ1 v H1 q1 R1 => ⟨Γ1, _, _, R1, q1, fun r2 Γ2 w H2 q2 R2 => ⟨Γ2, _, _, R2, q2, fun r3 Γ3 u H3 q3 R3 => ⟨v, w, u, rfl, ?_⟩⟩⟩⟩
    obtain ⟨Γ4, q4, R4⟩ := R3.store q3
    obtain ⟨Γ5, q5, R5⟩ := R4.store q4
    obtain ⟨Γ6, q6, R6⟩ := R5.store q5
    have e : ((σ.set i (some v)).set j (some w)).set l (some u) = ((σ.set l (some u)).set j (some w)).set i (some v) := by
      rw [List.set_comm _ _ hij, List.set_comm _ _ hil, List.set_comm (some w) (some u) hjl]
    rw [e]
    exact k1 _ _ _ q6 R6
end
/-! ### what repr can show -/
mutual
/-- ints of at most 60 digits, all the way down -/
def smallD : D → Bool
  | .int i => decide (i.natAbs < 1000000000000000000000000000000000000000000000000000000000000)
  | .tup l => smallDs l
  | .lst l => smallDs l
  | .str s => PyData.strOk s
  | .non => true
  | .bl _ => true
  | .dk _ _ => false
  | .dt _ _ => false
  | .scr _ => false
def smallDs : List D → Bool
  | [] => true
  | d :: l => smallD d && smallDs l
end
theorem log_small {i : Int} (h : i.natAbs < 1000000000000000000000000000000000000000000000000000000000000) : i.natAbs.log2 < 200 := bits_of h
mutual
theorem small_show : ∀ d : D, smallD d = true → (toP d).showable = true ∧ (toP d).leavesShort 201 = true
  | .int i, h => by
    rw [smallD, decide_eq_true_eq] at h
    have z := log_small h
    refine ⟨?_, ?_⟩
    · simp only [toP, PyData.showable]
      exact decide_eq_true (by omega)
    · simp only [toP, PyData.leavesShort]
      exact decide_eq_true (by
        show (Str.ofString (toString i)).length ≤ 201
        have := int_text_length_le (a := i) (k := 200) (by decide) z
        rw [PySem.ofString_length]
        omega)
  | .tup l, h => by
    rw [smallD] at h
    simpa only [toP, PyData.showable, PyData.leavesShort] using smalls_show l h
  | .lst l, h => by
    rw [smallD] at h
    simpa only [toP, PyData.showable, PyData.leavesShort] using smalls_show l h
  | .str s, h => by
    rw [smallD] at h
    refine ⟨by simp only [toP, PyData.showable], ?_⟩
    simp only [toP, PyData.leavesShort]
    rw [List.all_eq_true]
    intro c hc
    have z : s.cps.all (· < 0x110000) = true := h
    rw [← Array.all_toList, List.all_eq_true] at z
    have := z c hc
    simp only [decide_eq_true_eq] at this ⊢
    exact Nat.lt_trans this (by decide)
  | .non, _ => ⟨by simp only [toP, PyData.showable], by simp only [toP, PyData.leavesShort]⟩
  | .bl _, _ => ⟨by simp only [toP, PyData.showable], by simp only [toP, PyData.leavesShort]⟩
  | .dk _ _, h => by rw [smallD] at h; cases h
  | .dt _ _, h => by rw [smallD] at h; cases h
  | .scr _, h => by rw [smallD] at h; cases h
theorem smalls_show : ∀ l : List D, smallDs l = true → PyData.showableAll (toPs l) = true ∧ PyData.leavesShortAll 201 (toPs l) = true
  | [], _ => ⟨by simp only [toPs, PyData.showableAll], by simp only [toPs, PyData.leavesShortAll]⟩
  | d :: l, h => by
    rw [smallDs, Bool.and_eq_true] at h
    obtain ⟨a, b⟩ := small_show d h.1
    obtain ⟨a', b'⟩ := smalls_show l h.2
    exact ⟨by simp only [toPs, PyData.showableAll, a, a', Bool.and_self], by simp only [toPs, PyData.leavesShortAll, b, b', Bool.and_self]⟩
end
theorem rp_of {d : D} (h1 : sh d 60 = true) (h2 : smallD d = true) (h3 : (toP d).bulk ≤ 4000) : RpOk d := by
  obtain ⟨a, b⟩ := small_show d h2
  refine ⟨h1, a, ?_⟩
  have := PyData.shown_le_bulk 201 (by decide) (toP d) b
  have h4 : (201 + 2) * (toP d).bulk ≤ 203 * 4000 := Nat.mul_le_mul (by decide) h3
  omega
/-- a row of pairs of ints -/
theorem rp_dots {l : List (Int × Int)} (hl : l.length ≤ 1000) (hb : ∀ p ∈ l, p.1.natAbs < 1000000000000000000000000000000000000000000000000000000000000 ∧ p.2.natAbs < 1000000000000000000000000000000000000000000000000000000000000) : RpOk (.tup (l.map dotD)) := by
  have s1 : ∀ l : List (Int × Int), shs (l.map dotD) 59 = true := by
    intro l
    induction l with
    | nil => rfl
    | cons p l ih =>
      rw [List.map_cons, shs, ih]
      rfl
  have s2 : ∀ l : List (Int × Int), (∀ p ∈ l, p.1.natAbs < 1000000000000000000000000000000000000000000000000000000000000 ∧ p.2.natAbs < 1000000000000000000000000000000000000000000000000000000000000) → smallDs (l.map dotD) = true := by
    intro l
    induction l with
    | nil => intro _; rw [List.map_nil, smallDs]
    | cons p l ih =>
      intro h
      have hp := h p (by simp)
      rw [List.map_cons, smallDs, ih fun q hq => h q (List.mem_cons_of_mem _ hq)]
      simp only [dotD, smallD, smallDs, hp.1, hp.2, decide_true, Bool.and_self]
  have s3 : ∀ l : List (Int × Int), PyData.bulkAll (toPs (l.map dotD)) = 3 * l.length := by
    intro l
    induction l with
    | nil => simp only [List.map_nil, toPs, PyData.bulkAll, List.length_nil]
    | cons p l ih =>
      simp only [List.map_cons, toPs, PyData.bulkAll, ih, dotD, toP, PyData.bulk, List.length_cons]
      omega
  refine rp_of ?_ (by rw [smallD]; exact s2 l hb) ?_
  · show (decide (0 < 60) && shs (l.map dotD) (60 - 1)) = true
    rw [s1]
    rfl
  · simp only [toP, PyData.bulk, s3]
    omega
end Dl
/-! ## comprehensions with two fors -/
namespace Dl
open PySem PySem.Spec PyProof.Rows
open L2
section
variable {X : Cx} {c : Cn} {e a b tg : Expr} {σ : L2.St} {H : Hp} {Γ : Gm} {T : Ls} {wa wb wc : W} {pos : Pos}
/-- the turns of one for of a list comprehension, the list at D -/
theorem lc_walk {vs tgs : List Nat} (hv : ∀ i ∈ tgs, i ∈ vs) {g : WG} {wt : WT} {we : W} {gd : Gm → Prop} {items acc0 : List D} {J : It} {src S : Ls} {kk : List D → Gm → Prop} {D : Addr} {Nx : Hp → Prop} (R : Rel c σ H Γ (src ++ ((.lst false D acc0, .ref D) :: S))) (hJ : ItD c J items gd src)
    (q : lcLoop vs gd g wt we items acc0 (wipeG Γ vs) kk) (fin : ∀ (acc : List Dl.D) (Γ : Gm) (H : Hp), kk acc Γ → Rel c (wipe σ vs) H Γ ((.lst false D acc, .ref D) :: (src ++ S)) → Nx H) :
    ∃ W : Nat → Nat → Hp → Prop, (∃ m, W 0 m H) ∧ ∀ j k H, W j k H → (J.stop j H ∧ Nx H) ∨ (J.go j H ∧ ∃ Nx1 : Hp → Prop, (∀ H', Nx1 H' → ∃ k', k' < k ∧ W (j + 1) k' H') ∧ ∀ x H', J.yld j H x H' → liftG c tgs g x (wipe σ vs) H' fun σ3 H5 => wipe σ3 vs = wipe σ vs ∧ liftT c wt σ3 H5 fun b H6 =>
      if b = true then lift c we σ3 H6 fun y H7 => ∃ acc, H7 D = some (.lst acc) ∧ acc.length < sizeLine ∧ Nx1 (upd H7 D (.lst (acc ++ [y]))) else Nx1 H6) := by
  have R2 : Rel c (wipe σ vs) H (wipeG Γ vs) ((.lst false D acc0, .ref D) :: (src ++ S)) := (R.wipe vs).perm (front _ _ _)
  refine ⟨fun i m H => m = items.length - i ∧ i ≤ items.length ∧ ∃ Γ acc, Rel c (wipe σ vs) H Γ ((.lst false D acc, .ref D) :: (src ++ S)) ∧ lcLoop vs gd g wt we (items.drop i) acc Γ kk, ⟨_, rfl, Nat.zero_le _, _, acc0, R2, q⟩, ?_⟩
  rintro i m H2 ⟨rfl, hi, Γ2, acc, R2, q2⟩
  have R3 : Rel c (wipe σ vs) H2 Γ2 (src ++ ((.lst false D acc, .ref D) :: S)) := R2.perm (front _ _ _).symm
  obtain ⟨js, jg⟩ := hJ i _ H2 Γ2 _ R3 q2.gd
  by_cases hlt : i < items.length
  · have hd : items[i]? = some items[i] := List.getElem?_eq_getElem hlt
    obtain ⟨j1, j2⟩ := jg _ hd
    rw [drop_at hd] at q2
    refine .inr ⟨j1, fun H3 => ∃ Γ acc, Rel c (wipe σ vs) H3 Γ ((.lst false D acc, .ref D) :: (src ++ S)) ∧ lcLoop vs gd g wt we (items.drop (i + 1)) acc Γ kk, fun H3 h3 => ⟨_, by omega, rfl, hlt, h3⟩, fun v H3 hy => ?_⟩
    refine ⟨_, Γ2, _, _, j2 v H3 hy, q2.2, fun Γ3 σ4 H4 q3 R4 sb => ?_⟩
    have hw4 : wipe σ4 vs = wipe σ vs := by rw [sb.wipe hv, wipe_wipe]
    refine ⟨hw4, Γ3, _, _, R4, q3, fun t Γ4 H5 q4 R5 => ?_⟩
    cases t with
    | true =>
      rw [if_pos rfl]
      refine ⟨Γ4, _, _, R5, q4, fun r Γ5 y H6 q5 R6 => ?_⟩
      obtain ⟨e, Γ6, ⟨hz, q6⟩, R7⟩ := R6.take q5
      have R8 := R7.wipe vs
      rw [hw4] at R8
      obtain ⟨F, E, he, G⟩ := R8
      have G1 : Good c F H6 ((.lst false D acc, .ref D) :: (E ++ ((.dat e, y) :: (src ++ S)))) := G.perm (by
        refine List.Perm.trans ?_ (front E _ _)
        exact List.Perm.append_left E ((List.Perm.cons _ (front src S _)).trans (List.Perm.swap _ _ _)))
      obtain ⟨e1, hF, h0, xs, hx, rl⟩ := G1.rep _ List.mem_cons_self
      have ry : RepD c.K F e y := G1.rep (.dat e, y) (by simp)
      refine ⟨xs, hx, by rw [rl.length]; exact lineL hz, wipeG Γ6 vs, acc ++ [e], ⟨F, E, he, ?_⟩, q6⟩
      have G2 : Good c F (upd H6 D (.lst (xs ++ [y]))) ((.lst false D (acc ++ [e]), .ref D) :: (E ++ ((.dat e, y) :: (src ++ S)))) := G1.turn rfl rfl (p := false) h0 ⟨e1, hF, h0, _, upd_same, rl.append (.one ry)⟩
      exact ((G2.less (((List.Sublist.refl E).append (List.sublist_cons_self _ _)).cons₂ _))).perm (front _ _ _).symm
    | false =>
      rw [if_neg Bool.false_ne_true]
      have R8 := R5.wipe vs
      rw [hw4] at R8
      exact ⟨_, acc, R8.perm (front _ _ _), q4⟩
  · have e : items.drop i = [] := List.drop_eq_nil_iff.mpr (by omega)
    rw [e] at q2
    exact .inl ⟨js (by omega), fin _ _ _ q2.2 R2⟩
def lc2Loop (vs vs1 : List Nat) (gd : Gm → Prop) (g : WG) (wt : WT) (wi1 : WI) (g1 : WG) (wt1 : WT) (we : W) : List D → List D → Gm → (List D → Gm → Prop) → Prop
  | [], acc, Γ, k => gd Γ ∧ k acc Γ
  | d :: ds, acc, Γ, k => gd Γ ∧ g (.dat d) Γ fun Γ1 => wt Γ1 fun t Γ2 => match t with
    | true => wi1 Γ2 fun items1 gd1 Γ3 => lcLoop vs1 gd1 g1 wt1 we items1 acc (wipeG Γ3 vs1) fun acc' Γ4 => lc2Loop vs vs1 gd g wt wi1 g1 wt1 we ds acc' (wipeG Γ4 vs) k
    | false => lc2Loop vs vs1 gd g wt wi1 g1 wt1 we ds acc (wipeG Γ2 vs) k
def wLc2 (vs vs1 : List Nat) (wi : WI) (g : WG) (wt : WT) (wi1 : WI) (g1 : WG) (wt1 : WT) (we : W) : W := fun Γ Q => wi Γ fun items gd Γ1 => lc2Loop vs vs1 gd g wt wi1 g1 wt1 we items [] (wipeG Γ1 vs) fun acc Γ2 => ∀ a, Q (.lst false a acc) Γ2
theorem lc2Loop.gd {vs vs1 : List Nat} {gd : Gm → Prop} {g g1 : WG} {wt wt1 : WT} {wi1 : WI} {we : W} {l acc : List D} {k : List D → Gm → Prop} (h : lc2Loop vs vs1 gd g wt wi1 g1 wt1 we l acc Γ k) : gd Γ := by
  cases l with
  | nil => exact h.1
  | cons d l => exact h.1
theorem wipe_wipe2 {vs vs1 : List Nat} (h : ∀ i ∈ vs1, i ∈ vs) (σ : L2.St) : wipe (wipe σ vs1) vs = wipe σ vs := by
  refine List.ext_getElem? fun j => ?_
  rw [wipe_get, wipe_length, wipe_get, wipe_get]
  by_cases hj : j ∈ vs ∧ j < σ.length
  · rw [if_pos hj, if_pos hj]
  · rw [if_neg hj, if_neg hj]
    by_cases h1 : j ∈ vs1 ∧ j < σ.length
    · exact absurd ⟨h j h1.1, h1.2⟩ hj
    · rw [if_neg h1]
theorem lc2_end {vs vs1 tgs tgs1 : List Nat} (hv : ∀ i ∈ tgs, i ∈ vs) (hv1 : ∀ i ∈ tgs1, i ∈ vs1) (h01 : ∀ i ∈ vs1, i ∈ vs) {wi wi1 : WI} {g g1 : WG} {wt wt1 : WT} {we : W} {Q : VK} (q : lift c (wLc2 vs vs1 wi g wt wi1 g1 wt1 we) σ H Q) :
    tLc2 (liftI c wi) (liftG c tgs g) (liftT c wt) (liftI c wi1) (liftG c tgs1 g1) (liftT c wt1) (lift c we) vs vs1 σ H Q := by
  obtain ⟨Γ, T, Qd, hR, hw, k⟩ := q
  refine ⟨Γ, T, _, hR, hw, fun items gd Γ1 J H1 src q1 R1 hJ D hD => ?_⟩
  have R2 : Rel c (wipe σ vs) (upd H1 D (.lst [])) (wipeG Γ1 vs) ((.lst false D [], .ref D) :: (src ++ T)) := by
    obtain ⟨F, E, he, G⟩ := R1.wipe vs
    exact ⟨F, E, he, (G.newOwn (l := []) (xs := []) hD rfl).perm (front _ _ _).symm⟩
  refine ⟨fun i m H => m = items.length - i ∧ i ≤ items.length ∧ ∃ Γ acc, Rel c (wipe σ vs) H Γ ((.lst false D acc, .ref D) :: (src ++ T)) ∧ lc2Loop vs vs1 gd g wt wi1 g1 wt1 we (items.drop i) acc Γ fun acc Γ2 => ∀ a, Qd (.lst false a acc) Γ2, ⟨_, rfl, Nat.zero_le _, _, [], R2, q1⟩, ?_⟩
  rintro i m H2 ⟨rfl, hi, Γ2, acc, R2, q2⟩
  have R3 : Rel c (wipe σ vs) H2 Γ2 (src ++ ((.lst false D acc, .ref D) :: T)) := R2.perm (front _ _ _).symm
  obtain ⟨js, jg⟩ := hJ i _ H2 Γ2 _ R3 q2.gd
  by_cases hlt : i < items.length
  · have hd : items[i]? = some items[i] := List.getElem?_eq_getElem hlt
    obtain ⟨j1, j2⟩ := jg _ hd
    rw [drop_at hd] at q2
    refine .inr ⟨j1, fun H3 => ∃ Γ acc, Rel c (wipe σ vs) H3 Γ ((.lst false D acc, .ref D) :: (src ++ T)) ∧ lc2Loop vs vs1 gd g wt wi1 g1 wt1 we (items.drop (i + 1)) acc Γ fun acc Γ2 => ∀ a, Qd (.lst false a acc) Γ2, fun H3 h3 => ⟨_, by omega, rfl, hlt, h3⟩, fun v H3 hy => ?_⟩
    refine ⟨_, Γ2, _, _, j2 v H3 hy, q2.2, fun Γ3 σ4 H4 q3 R4 sb => ?_⟩
    have hw4 : wipe σ4 vs = wipe σ vs := by rw [sb.wipe hv, wipe_wipe]
    refine ⟨hw4, Γ3, _, _, R4, q3, fun t Γ4 H5 q4 R5 => ?_⟩
    cases t with
    | true =>
      rw [if_pos rfl]
      refine ⟨Γ4, _, _, R5, q4, fun items1 gd1 Γ5 J1 H6 src1 q5 R6 hJ1 => ?_⟩
      have R7 : Rel c σ4 H6 Γ5 (src1 ++ ((.lst false D acc, .ref D) :: (src ++ T))) := R6.perm ((front src T _).append_left src1)
      refine lc_walk hv1 R7 hJ1 q5 fun acc' Γ6 H7 q6 R8 => ?_
      have R9 := R8.wipe vs
      rw [wipe_wipe2 h01, hw4] at R9
      exact ⟨_, acc', R9.less ((List.sublist_append_right _ _).cons₂ _), q6⟩
    | false =>
      rw [if_neg Bool.false_ne_true]
      have R8 := R5.wipe vs
      rw [hw4] at R8
      exact ⟨_, acc, R8.perm (front _ _ _), q4⟩
  · have e : items.drop i = [] := List.drop_eq_nil_iff.mpr (by omega)
    rw [e] at q2
    refine .inl ⟨js (by omega), k _ _ _ _ (q2.2 D) (R2.unwipe.less ((List.sublist_append_right _ _).cons₂ _))⟩
theorem pd_lc2 {elt iter tg1 iter1 : Expr} {ifs ifs1 : List Expr} {scope : Scope} {own : List (Str × Nat)} {vs1 tgs tgs1 : List Nat} {wi wi1 : WI} {g g1 : WG} {wt wt1 : WT} {we : W} (hc : X.calm = true) (hN : X.N.Nodup) (hi : PI X tg iter (liftI c wi)) (ok : blkC X.N X.env.scope scope own = true)
    (hv : ∀ i ∈ tgs, i ∈ own.map (·.2)) (hv1 : ∀ i ∈ tgs1, i ∈ vs1) (h01 : ∀ i ∈ vs1, i ∈ own.map (·.2))
    (hg : ∀ t G C cl fp, PG (blkX X t G scope C cl fp) tg (liftG c tgs g)) (ht : ∀ t G C cl fp, PTs (blkX X t G scope C cl fp) ifs (liftT c wt)) (hi1 : ∀ t G C cl fp, PI (blkX X t G scope C cl fp) tg1 iter1 (liftI c wi1))
    (hg1 : ∀ t G C cl fp, PG (blkX X t G scope C cl fp) tg1 (liftG c tgs1 g1)) (ht1 : ∀ t G C cl fp, PTs (blkX X t G scope C cl fp) ifs1 (liftT c wt1)) (he : ∀ t G C cl fp, PE (blkX X t G scope C cl fp) elt (lift c we))
    (hs : ∀ x, foldedSetIterable iter X.env x = pure x := by intro _; rfl) (hs1 : ∀ env x, foldedSetIterable iter1 env x = pure x := by intro _ _; rfl) :
    PE X (.ListComp elt [⟨tg, iter, ifs, 0⟩, ⟨tg1, iter1, ifs1, 0⟩] scope pos) (lift c (wLc2 (own.map (·.2)) vs1 wi g wt wi1 g1 wt1 we)) :=
  (pe_lc2 hc hN hi (blkOk_by ok) h01 hg ht hi1 hg1 ht1 he hs hs1).imp fun σ H Q q => lc2_end hv hv1 h01 q
theorem psd_setLc2 {i : Nat} {y : Str} {py spos : Pos} {elt iter tg1 iter1 : Expr} {ifs ifs1 : List Expr} {scope : Scope} {own : List (Str × Nat)} {vs1 tgs tgs1 : List Nat} {wi wi1 : WI} {g g1 : WG} {wt wt1 : WT} {we : W} (hc : X.calm = true) (hN : X.N.Nodup)
    (hsw : swapsWith (.ListComp elt [⟨tg, iter, ifs, 0⟩, ⟨tg1, iter1, ifs1, 0⟩] scope pos) (some (.Name y py)) spos.line X.env = pure true) (hi : PI X tg iter (liftI c wi)) (ok : blkC X.N X.env.scope scope own = true)
    (hv : ∀ i ∈ tgs, i ∈ own.map (·.2)) (hv1 : ∀ i ∈ tgs1, i ∈ vs1) (h01 : ∀ i ∈ vs1, i ∈ own.map (·.2))
    (hg : ∀ t G C cl fp, PG (blkX X t G scope C cl fp) tg (liftG c tgs g)) (ht : ∀ t G C cl fp, PTs (blkX X t G scope C cl fp) ifs (liftT c wt)) (hi1 : ∀ t G C cl fp, PI (blkX X t G scope C cl fp) tg1 iter1 (liftI c wi1))
    (hg1 : ∀ t G C cl fp, PG (blkX X t G scope C cl fp) tg1 (liftG c tgs1 g1)) (ht1 : ∀ t G C cl fp, PTs (blkX X t G scope C cl fp) ifs1 (liftT c wt1)) (he : ∀ t G C cl fp, PE (blkX X t G scope C cl fp) elt (lift c we))
    (hy : X.N[i]? = some y := by rfl) (hyl : X.env.scope.names.lookup y = some .local := by rfl) (hs : ∀ x, foldedSetIterable iter X.env x = pure x := by intro _; rfl) (hs1 : ∀ env x, foldedSetIterable iter1 env x = pure x := by intro _ _; rfl) :
    PS X (.Assign [.Name y py] (.ListComp elt [⟨tg, iter, ifs, 0⟩, ⟨tg1, iter1, ifs1, 0⟩] scope pos) spos) (liftS c (wAsg (wLc2 (own.map (·.2)) vs1 wi g wt wi1 g1 wt1 we) (stN i))) :=
  (ps_setLc2 hc hN hy hyl hsw hi (blkOk_by ok) h01 hg ht hi1 hg1 ht1 he hs hs1).imp fun E σ H ⟨Γ, T, Ed, hR, hw, k1, k2⟩ => by
    show tLc2 _ _ _ _ _ _ _ _ _ σ H fun x H1 => gName i x σ H1 E.nx
    refine lc2_end hv hv1 h01 ⟨Γ, T, _, hR, hw, fun r Γ1 v H1 q1 R1 => ?_⟩
    obtain ⟨Γ', q, R'⟩ := R1.store q1
    exact k1 _ _ _ q R'
theorem lc2_rule {vs vs1 : List Nat} {gd : Gm → Prop} {g g1 : WG} {wt wt1 : WT} {wi1 : WI} {we : W} {Q : List D → Gm → Prop} (I : List D → List D → Gm → Prop) (hg : ∀ r acc Γ, I r acc Γ → gd Γ) (hn : ∀ acc Γ, I [] acc Γ → Q acc Γ)
    (hs : ∀ d r acc Γ (K : List D → Gm → Prop), I (d :: r) acc Γ → (∀ acc' Γ', I r acc' Γ' → K acc' Γ') → g (.dat d) Γ fun Γ1 => wt Γ1 fun t Γ2 => match t with
      | true => wi1 Γ2 fun items1 gd1 Γ3 => lcLoop vs1 gd1 g1 wt1 we items1 acc (wipeG Γ3 vs1) fun acc' Γ4 => K acc' (wipeG Γ4 vs)
      | false => K acc (wipeG Γ2 vs)) : ∀ items acc Γ, I items acc Γ → lc2Loop vs vs1 gd g wt wi1 g1 wt1 we items acc Γ Q
  | [], acc, Γ, h => ⟨hg _ _ _ h, hn _ _ h⟩
  | d :: ds, acc, Γ, h => ⟨hg _ _ _ h, hs d ds acc Γ (fun acc' Γ' => lc2Loop vs vs1 gd g wt wi1 g1 wt1 we ds acc' Γ' Q) h fun acc' Γ' h' => lc2_rule I hg hn hs ds acc' Γ' h'⟩
end
end Dl
/-! ## zip -/
namespace Dl
open PySem PySem.Spec PyProof.Rows
open L2
section
variable {X : Cx} {c : Cn} {a b : Expr} {σ : L2.St} {H : Hp} {Γ : Gm} {T : Ls} {pos : Pos}
def zipD (l m : List D) : List D := (l.zip m).map fun p => .tup [p.1, p.2]
theorem zipD_get {l m : List D} {i : Nat} {d : D} (h : (zipD l m)[i]? = some d) : ∃ x y, l[i]? = some x ∧ m[i]? = some y ∧ d = .tup [x, y] := by
  unfold zipD at h
  rw [List.getElem?_map] at h
  obtain ⟨p, hp, e⟩ := Option.map_eq_some_iff.mp h
  obtain ⟨h1, h2⟩ := List.getElem?_zip_eq_some.mp hp
  exact ⟨p.1, p.2, h1, h2, e.symm⟩
theorem zipD_len {l m : List D} : (zipD l m).length = min l.length m.length := by simp [zipD]
def wiZip (t : WA) : WI := fun Γ Q => t Γ fun rs Γ1 => takes rs Γ1 fun ds Γ2 => match ds with
  | [.lst l, .lst m] => Q (zipD l m) (fun _ => True) Γ2
  | [.tup l, .tup m] => Q (zipD l m) (fun _ => True) Γ2
  | _ => False
theorem pair_end {F : Hp} {E L : Ls} {d e : D} {x y : V} {p : Addr} (he : Ents Γ σ E) (G : Good c F H (E ++ L)) (hp : H p = none) (rd : RepD c.K F d x) (re : RepD c.K F e y) : Rel c σ (upd H p (.tup [x, y])) Γ ((.dat (.tup [d, e]), .ref p) :: L) := by
  have G2 := G.newTup hp (l := [d, e]) (xs := [x, y]) ⟨x, [y], rfl, rd, y, [], rfl, re, rfl⟩
  exact ⟨_, E, he, G2.perm (front _ _ _).symm⟩
theorem itd_zip {l m : List D} {p q : Addr} : ItD c (Itz c.K p q) (zipD l m) (fun _ => True) [(.dat (.lst l), .ref p), (.dat (.lst m), .ref q)] := fun i σ H Γ T R _ => by
  obtain ⟨F, E, he, G⟩ := R
  obtain ⟨a1, xs, e1, f1, r1⟩ : RepD c.K F (.lst l) (.ref p) := G.rep (.dat (.lst l), .ref p) (by simp)
  obtain ⟨a2, ys, e2, f2, r2⟩ : RepD c.K F (.lst m) (.ref q) := G.rep (.dat (.lst m), .ref q) (by simp)
  cases e1
  cases e2
  have hx := SqL.of (K := c.K) (G.sub _ _ f1)
  have hy := SqL.of (K := c.K) (G.sub _ _ f2)
  refine ⟨fun hi => ⟨xs, ys, hx, hy, by rw [zipD_len] at hi; rw [r1.length, r2.length]; omega⟩, fun d hd => ?_⟩
  obtain ⟨d1, d2, h1, h2, rfl⟩ := zipD_get hd
  obtain ⟨x, x1, x2⟩ := r1.get h1
  obtain ⟨y, y1, y2⟩ := r2.get h2
  refine ⟨⟨xs, ys, x, y, hx, hy, x1, y1⟩, fun v H' ⟨t, x', y', ev, hp, eH, k1, k2⟩ => ?_⟩
  have z1 := k1 xs hx
  have z2 := k2 ys hy
  rw [x1] at z1
  rw [y1] at z2
  cases z1
  cases z2
  subst ev
  subst eH
  exact pair_end he G hp x2 y2
theorem itd_zipT {l m : List D} {p q : Addr} : ItD c (RZ.ItzT c.K p q) (zipD l m) (fun _ => True) [(.dat (.tup l), .ref p), (.dat (.tup m), .ref q)] := fun i σ H Γ T R _ => by
  obtain ⟨F, E, he, G⟩ := R
  obtain ⟨a1, xs, e1, f1, r1⟩ : RepD c.K F (.tup l) (.ref p) := G.rep (.dat (.tup l), .ref p) (by simp)
  obtain ⟨a2, ys, e2, f2, r2⟩ : RepD c.K F (.tup m) (.ref q) := G.rep (.dat (.tup m), .ref q) (by simp)
  cases e1
  cases e2
  have hx := SqT.of (K := c.K) (G.sub _ _ f1)
  have hy := SqT.of (K := c.K) (G.sub _ _ f2)
  refine ⟨fun hi => ⟨xs, ys, hx, hy, by rw [zipD_len] at hi; rw [r1.length, r2.length]; omega⟩, fun d hd => ?_⟩
  obtain ⟨d1, d2, h1, h2, rfl⟩ := zipD_get hd
  obtain ⟨x, x1, x2⟩ := r1.get h1
  obtain ⟨y, y1, y2⟩ := r2.get h2
  refine ⟨⟨xs, ys, x, y, hx, hy, x1, y1⟩, fun v H' ⟨t, x', y', ev, hp, eH, k1, k2⟩ => ?_⟩
  have z1 := k1 xs hx
  have z2 := k2 ys hy
  rw [x1] at z1
  rw [y1] at z2
  cases z1
  cases z2
  subst ev
  subst eH
  exact pair_end he G hp x2 y2
theorem pid_zip {e e2 : Expr} {t : WA} {p tpos : Pos} {elts : List Expr} {kk : Nat} (hm : X.mg "zip" = none) (ha : PA X [e, e2] (liftA c t)) (hg : Gl X "zip" := by rfl) (hK : X.K = c.K := by rfl)
    (hs : starEach [e, e2] X.env = (false, eval e X.env) :: starEach [e2] X.env := by rfl) (hpl : (backTo pos (starEach [e2] X.env)).any (·.1) = false := by rfl) : PI X (.Tuple elts kk tpos) (.Call (.Name "zip" p) [e, e2] [] pos) (liftI c (wiZip t)) := by
  refine (RZ.pi_zipA hg hm ha hs hpl).imp fun σ H Q ⟨Γ, T, Qd, hR, hw, k⟩ => ⟨Γ, T, _, hR, hw, fun rs Γ1 vs H1 q1 hl R1 => ?_⟩
  obtain ⟨ds, Γ2, q2, R2, el⟩ := R1.takes hl q1
  rw [hK]
  split at q2
  · rename_i l m
    obtain ⟨v, w, rfl⟩ : ∃ v w, vs = [v, w] := by
      match vs, el with
      | [v, w], _ => exact ⟨v, w, rfl⟩
    have R3 := R2
    obtain ⟨F, E, he, G⟩ := R3
    obtain ⟨p, xs, e1, f1, r1⟩ : RepD c.K F (.lst l) v := G.rep (.dat (.lst l), v) (by simp)
    obtain ⟨q, ys, e2, f2, r2⟩ : RepD c.K F (.lst m) w := G.rep (.dat (.lst m), w) (by simp)
    subst e1
    subst e2
    exact ⟨p, q, xs, ys, rfl, .inl ⟨SqL.of (G.sub _ _ f1), SqL.of (G.sub _ _ f2), k _ _ _ _ _ [(.dat (.lst l), .ref p), (.dat (.lst m), .ref q)] q2 R2 itd_zip⟩⟩
  · rename_i l m
    obtain ⟨v, w, rfl⟩ : ∃ v w, vs = [v, w] := by
      match vs, el with
      | [v, w], _ => exact ⟨v, w, rfl⟩
    have R3 := R2
    obtain ⟨F, E, he, G⟩ := R3
    obtain ⟨p, xs, e1, f1, r1⟩ : RepD c.K F (.tup l) v := G.rep (.dat (.tup l), v) (by simp)
    obtain ⟨q, ys, e2, f2, r2⟩ : RepD c.K F (.tup m) w := G.rep (.dat (.tup m), w) (by simp)
    subst e1
    subst e2
    exact ⟨p, q, xs, ys, rfl, .inr ⟨SqT.of (G.sub _ _ f1), SqT.of (G.sub _ _ f2), k _ _ _ _ _ [(.dat (.tup l), .ref p), (.dat (.tup m), .ref q)] q2 R2 itd_zipT⟩⟩
  · exact q2.elim
def wNoE : W := fun _ _ => False
theorem pd_noE {e : Expr} : PE X e (lift c wNoE) := ⟨fun _ _ _ _ _ _ ⟨_, _, _, _, hw, _⟩ => hw.elim⟩
/-- a list taken apart -/
def stLst (n : Nat) (gs : WGs) : WG := fun r Γ k => match r with
  | .dat (.lst l) => l.length = n ∧ gs l Γ k
  | .lst false _ l => l.length = n ∧ gs l Γ k
  | _ => False
theorem pgd_lstT {tg : List Nat} {xs : List Expr} {k : Nat} {n : Nat} {gs : WGs} (hc : X.calm = true) (h : PGs X xs (liftGs c tg gs)) (hK : X.K = c.K := by rfl) (hn : (assignEach xs X.env).length = n := by rfl) (hst : (assignEach xs X.env).findIdx? (·.1) = none := by rfl) :
    PG X (.Tuple xs k pos) (liftG c tg (stLst n gs)) := (pg_lst hc h hn hst).imp fun v σ H Q ⟨r, Γ, T, Qd, hR, hw, kk⟩ => by
  unfold stLst at hw
  split at hw
  · rename_i l
    obtain ⟨F, E, he, G⟩ := hR
    obtain ⟨a, xs, rfl, f, r⟩ : RepD c.K F (.lst l) v := G.rep (.dat (.lst l), v) (by simp)
    refine ⟨a, xs, rfl, SqL.of (G.sub _ _ f), by rw [r.length]; exact hw.1, l, Γ, T, Qd, r.length.symm, ?_, hw.2, kk⟩
    exact ⟨F, E, he, (Good.zips r ((G.perm (front _ _ _)).tail)).perm (zip_left _ _ _)⟩
  · rename_i ad l
    obtain ⟨F, E, he, G⟩ := hR
    obtain ⟨e1, _, _, xs, hx, r⟩ := G.rep (.lst false ad l, v) (by simp)
    have e1 : v = .ref ad := e1
    subst e1
    refine ⟨ad, xs, rfl, SqL.of hx, by rw [r.length]; exact hw.1, l, Γ, T, Qd, r.length.symm, ?_, hw.2, kk⟩
    exact ⟨F, E, he, (Good.zips r ((G.perm (front _ _ _)).tail)).perm (zip_left _ _ _)⟩
  · exact hw.elim
end
end Dl
/-! ## isinstance with a tuple of types, enumerate -/
namespace Dl
open PySem PySem.Spec PyProof.Rows
open L2 HT
section
variable {prog : Program} {w : World} {A : Around} {E : Value → Shared → Prop} {s : Shared}
theorem places_rev (n : Nat) : Builtin.Slice.slicePlaces ((n : Int) - 1) (-1) (-1) = n := by
  unfold Builtin.Slice.slicePlaces
  have h1 : ¬ (-1 : Int) > 0 := by omega
  simp only [h1, if_false]
  split
  · rw [show -(-1 : Int) = 1 by rfl, Int.ediv_one]
    omega
  · omega
theorem sliceApplied_rev {sl : Addr} {vl vu vs : Value} {n : Nat} {Q : Int × Int × Nat → Shared → Prop} (hs : s.heap.IsSliceOf sl vl vu vs) (pl : IsPart vl none) (pu : IsPart vu none) (ps : IsPart vs (some (-1)))
    (h : Q (((n : Int) - 1), -1, n) s) : wpAny (model prog w) A (Builtin.Slice.sliceApplied (.ref sl) (pure (n : Int))) Q E s := by
  obtain ⟨os, hos, hcs, hds⟩ := id hs
  unfold Builtin.Slice.sliceApplied Builtin.Slice.sliceFields
  refine wpAny_bind (wpAny_bind (wpAny_field hos hds (x := vl) rfl (wpAny_bind (wpAny_field hos hds (x := vu) rfl (wpAny_bind (wpAny_field hos hds (x := vs) rfl (wpAny_pure ?_)))))))
  refine wpAny_bind (HT.slicePart_ ps ?_)
  show wpAny _ _ (if ((-1 : Int) == 0) = true then _ else _) _ _ s
  rw [if_neg (by decide)]
  refine wpAny_bind (HT.slicePart_ pl (wpAny_bind (HT.slicePart_ pu (wpAny_bind (wpAny_pure ?_)))))
  show wpAny _ _ (pure (((n : Int) - 1), (-1 : Int), Builtin.Slice.slicePlaces ((n : Int) - 1) (-1) (-1))) _ _ s
  rw [places_rev]
  exact wpAny_pure h
theorem pick_rev (xs : Array Value) : ((List.range xs.size).filterMap fun (m : Nat) => xs[((xs.size : Int) - 1 + (m : Int) * -1).toNat]?).toArray = xs.toList.reverse.toArray := by
  congr 1
  apply List.ext_getElem?
  intro i
  have e : ∀ m ∈ List.range xs.size, xs[((xs.size : Int) - 1 + (m : Int) * -1).toNat]? = some (xs.toList.reverse.getD m .none) := fun m hm => by
    have hm' := List.mem_range.mp hm
    rw [show ((xs.size : Int) - 1 + (m : Int) * -1).toNat = xs.size - 1 - m by omega]
    rw [List.getD_eq_getElem?_getD, List.getElem?_reverse (by simpa using hm')]
    simp only [Array.length_toList, Array.getElem?_toList]
    rw [Array.getElem?_eq_getElem (by omega)]
    rfl
  have f : (List.range xs.size).filterMap (fun (m : Nat) => xs[((xs.size : Int) - 1 + (m : Int) * -1).toNat]?) = (List.range xs.size).map fun m => xs.toList.reverse.getD m .none := by
    have g : ∀ l : List Nat, (∀ m ∈ l, xs[((xs.size : Int) - 1 + (m : Int) * -1).toNat]? = some (xs.toList.reverse.getD m .none)) → l.filterMap (fun (m : Nat) => xs[((xs.size : Int) - 1 + (m : Int) * -1).toNat]?) = l.map fun m => xs.toList.reverse.getD m .none := by
      intro l
      induction l with
      | nil => intro _; rfl
      | cons m l ih =>
        intro hm
        rw [List.filterMap_cons, hm m (by simp), ih fun k hk => hm k (List.mem_cons_of_mem _ hk)]
        rfl
    exact g _ e
  rw [f]
  by_cases hi : i < xs.size
  · rw [List.getElem?_map, List.getElem?_range hi]
    simp only [Option.map_some]
    rw [List.getD_eq_getElem?_getD]
    have : i < xs.toList.reverse.length := by simpa using hi
    rw [List.getElem?_eq_getElem this]
    rfl
  · rw [List.getElem?_eq_none (by simpa using hi), List.getElem?_eq_none (by simpa using hi)]
theorem getItem_tuple_rev {t sl : Addr} {items : Array Value} {vl vu vs : Value} {Q : Value → Shared → Prop} (ht : IsTup s.heap t items) (hs : s.heap.IsSliceOf sl vl vu vs) (pl : IsPart vl none) (pu : IsPart vu none) (ps : IsPart vs (some (-1)))
    (h : Q (.ref s.heap.objs.size) { s with heap := s.heap.push { cls := .type "tuple", data := .seq items.toList.reverse.toArray } })
    (hsz : items.size ≤ sizeLine) : wpAny (model prog w) A (getItem (.ref t) (.ref sl)) Q E s := by
  have htake : sizeOk (.seq items.toList.reverse.toArray) := by
    show items.toList.reverse.toArray.size ≤ sizeLine
    rw [List.size_toArray, List.length_reverse, Array.length_toList]
    exact hsz
  obtain ⟨os, hos, hcs, hds⟩ := id hs
  have hTs : s.TypeIs (.ref sl) "slice" := ⟨os, hos, hcs⟩
  unfold getItem
  try with_reducible refine wpAny_holding ?_
  first | refine wpAny_bind (wpAny_pure ?_) | skip
  refine wpAny_bind (wpAny_sequenceKey ht.typeIs (by decide) ?_)
  refine wpAny_bind (wpAny_callSpecial?_slot (name := Str.ofString "__getitem__") ht.typeIs PyProof.Rows.slot_tuple_getitem
    (wpAny_call_entry PyProof.Rows.slot_tuple_getitem ht.typeIs entry_tuple_getitem ?_ (args_tuple_getitem _ _)))
  show wpAny _ _ (Builtin.Tuple.tupleItemsOf (.ref t) >>= _) _ _ s
  refine wpAny_bind (tupleItemsOf_ ht ?_)
  refine wpAny_bind (wpAny_typeOf hTs ?_)
  rw [if_pos (by decide)]
  refine wpAny_bind (sliceApplied_rev hs pl pu ps ?_)
  have hno : ¬ ((((items.size : Int) - 1) == 0 && (-1 : Int) == 1 && items.size == items.size) = true) := by
    intro q
    rw [Bool.and_eq_true, Bool.and_eq_true] at q
    exact absurd q.1.2 (by decide)
  show wpAny _ _ (if (((items.size : Int) - 1) == 0 && (-1 : Int) == 1 && items.size == items.size) = true then _ else _) _ _ s
  rw [if_neg hno, pick_rev]
  first
    | exact wpAny_bind (m := Builtin.Tuple.tupleExact _) (wpAny_newObj_type (wpAny_pure ⟨_, rfl, wpAny_pure h⟩) htake)
    | exact wpAny_bind (m := Builtin.Tuple.tupleExact _) (wpAny_newObj_type (wpAny_bind (wpAny_pure (wpAny_pure ⟨_, rfl, wpAny_pure h⟩))) htake)
    | exact wpAny_bind (wpAny_bind (m := Builtin.Tuple.tupleExact _) (wpAny_newObj_type (wpAny_pure (wpAny_pure ⟨_, rfl, wpAny_pure h⟩)) htake))
    | exact wpAny_bind (wpAny_bind (m := Builtin.Tuple.tupleExact _) (wpAny_newObj_type (wpAny_pure ⟨_, rfl, wpAny_pure h⟩) htake))
end
section
variable {X : Cx} {c : Cn} {a b : Expr} {σ : L2.St} {H : Hp} {Γ : Gm} {T : Ls} {pos : Pos} {wa wb : W}
/-! ### isinstance(x, (T1, T2)) -/
def wIsi2 (T1 T2 : String) (wa : W) : W := fun Γ Q => wa Γ fun r Γ1 => peek Γ1 r fun d => (match d with
  | .scr _ => False
  | .dt _ _ => False
  | _ => True) ∧ Q (.dat (.bl (isT T1 d || isT T2 d))) Γ1
theorem pd_isi2 {a : Expr} {p : Pos} {x1 x2 : Str} {T1 T2 : String} {pb1 pb2 pt : Pos} {kk : Nat} (hT1 : T1 ∈ ["int", "bool", "str", "tuple", "list", "dict"]) (hT2 : T2 ∈ ["int", "bool", "str", "tuple", "list", "dict"]) (hmi : X.mg "isinstance" = none)
    (hm1 : X.mg x1 = none) (hv1 : bootBuiltins x1 = some (.type T1)) (hm2 : X.mg x2 = none) (hv2 : bootBuiltins x2 = some (.type T2)) (ha : PE X a (lift c wa)) (hK : X.K = c.K := by rfl) (hgi : Gl X "isinstance" := by rfl) (hg1 : Gl X x1 := by rfl) (hg2 : Gl X x2 := by rfl)
    (hn1 : x1 ≠ "__name__" := by decide) (hdb1 : (x1 == ("__debug__" : Str)) = false := by decide) (hn2 : x2 ≠ "__name__" := by decide) (hdb2 : (x2 == ("__debug__" : Str)) = false := by decide)
    (hs1 : starEach [a, .Tuple [.Name x1 pb1, .Name x2 pb2] kk pt] X.env = (false, eval a X.env) :: starEach [.Tuple [.Name x1 pb1, .Name x2 pb2] kk pt] X.env := by rfl)
    (hs2 : starEach [.Tuple [.Name x1 pb1, .Name x2 pb2] kk pt] X.env = (false, eval (.Tuple [.Name x1 pb1, .Name x2 pb2] kk pt) X.env) :: starEach [] X.env := by rfl)
    (hs3 : starEach [.Name x1 pb1, .Name x2 pb2] X.env = (false, eval (.Name x1 pb1) X.env) :: starEach [.Name x2 pb2] X.env := by rfl)
    (hs4 : starEach [.Name x2 pb2] X.env = (false, eval (.Name x2 pb2) X.env) :: starEach [] X.env := by rfl)
    (hpl : (backTo pos (starEach [.Tuple [.Name x1 pb1, .Name x2 pb2] kk pt] X.env)).any (·.1) = false := by rfl) :
    PE X (.Call (.Name "isinstance" p) [a, .Tuple [.Name x1 pb1, .Name x2 pb2] kk pt] [] pos) (lift c (wIsi2 T1 T2 wa)) := by
  refine (pe_callB call_isiT hgi hmi (by decide +kernel) (pa_cons ha (pa_cons (pe_tup (pa_cons (pe_bltn (v := .ty T1) hg1 hm1 hv1 rfl hn1 hdb1) (pa_cons (pe_bltn (v := .ty T2) hg2 hm2 hv2 rfl hn2 hdb2) pa_nil hs4) hs3)) pa_nil hs2) hs1) (by decide) (by decide) hs1 hpl).imp fun σ H Q ⟨Γ, Tp, Qd, hR, hw, k⟩ => ?_
  refine ⟨Γ, Tp, _, hR, hw, fun r Γ1 v H1 q1 R1 => ⟨by show 2 ≤ sizeLine; decide, fun tp htp => ?_⟩⟩
  obtain ⟨F, E, he, G⟩ := R1
  obtain ⟨G2, _⟩ := G.grow (o := .tup [.ty T1, .ty T2]) htp
  obtain ⟨d, ⟨hd, q⟩, rd⟩ := G2.peek (r := r) (v := v) he (fun z hz => List.mem_append_left _ hz) (by simp) q1
  have ns : ∀ l, d ≠ .scr l := fun l z => by
    subst z
    exact hd
  have nt : ∀ ks l, d ≠ .dt ks l := fun ks l z => by
    subst z
    exact hd
  have k1 := kit_ty (K := X.K) (kit_all T1 hT1 _ (tyn_mem d))
  have k2 := kit_ty (K := X.K) (kit_all T2 hT2 _ (tyn_mem d))
  have k3 : PySem.W.kitAny X.K (.type (tyn d)) [.type T1, .type T2] = some (isT T1 d || isT T2 d) := by
    refine kitAny_cons k1 (fun e => ?_) (fun e => ?_)
    · have e' : isT T1 d = false := e
      rw [e', Bool.false_or]
      refine kitAny_cons k2 (fun e => ?_) (fun e => ?_)
      · have e' : isT T2 d = false := e
        rw [e']
        exact kitAny_nil
      · exact e
    · have e' : isT T1 d = true := e
      rw [e', Bool.true_or]
  refine ⟨v, tp, [.ty T1, .ty T2], .type (tyn d), [.type T1, .type T2], isT T1 d || isT T2 d, rfl, upd_same, .cons (.ty T1) (.cons (.ty T2) .nil), by rw [hK]; exact tyx G2.sub rd ns nt, k3, ?_⟩
  exact k _ _ _ _ q ⟨F, E, he, (((G2.perm (front _ _ _)).tail).also (r := .dat (.bl (isT T1 d || isT T2 d))) rfl rfl).perm (front _ _ _).symm⟩
/-! ### x[::-1] -/
def wRev (wa : W) : W := fun Γ Q => wa Γ fun r Γ1 => peek Γ1 r fun d => match d with
  | .tup l => Q (.dat (.tup l.reverse)) Γ1
  | .lst l => ∀ a, Q (.lst false a l.reverse) Γ1
  | _ => False
def tRevA (K : PySem.W.Frag) (te : TE) : TE := fun σ H Q => te σ H fun x H1 => ∃ a xs, x = .ref a ∧ ((SqL K H1 a xs ∧ ∀ p, H1 p = none → Q (.ref p) (upd H1 p (.lst xs.reverse))) ∨ (SqT K H1 a xs ∧ ∀ p, H1 p = none → Q (.ref p) (upd H1 p (.tup xs.reverse))))
theorem pe_revA {e : Expr} {te : TE} {k : Nat} {p1 p2 p3 pos : Pos} (he : PE X e te) : PE X (.Subscript e (.Slice none none (some (.UnaryOp .USub (.Constant (.int 1) k p1) p2)) p3) pos) (tRevA X.K te) := by
  refine ⟨fun pins s σ H Q I h => ?_⟩
  refine Subscript_ (thn (he.run pins s σ H _ I h) fun v s1 ⟨x, H1, I1, r1, q1⟩ => ?_)
  obtain ⟨a, xs, ex, q⟩ := q1
  subst ex
  cases r1
  have hst : PO X (some (.UnaryOp .USub (.Constant (.int 1) k p1) p2)) (tPart (tUn (rU fun i => .int (-i)) (tC (.int 1)))) := po_some (pe_un un_neg pe_int)
  refine wpAny_Slice (thn (po_none.run pins s1 σ H1 (fun o H2 => o = none ∧ H2 = H1) I1 ⟨rfl, rfl⟩) fun vl s2 ⟨l, H2, I2, pl, el, e2⟩ => ?_)
  subst el e2
  refine thn (po_none.run pins s2 σ H2 (fun o H3 => o = none ∧ H3 = H2) I2 ⟨rfl, rfl⟩) fun vu s3 ⟨u, H3, I3, pu, eu, e3⟩ => ?_
  subst eu e3
  refine thn (hst.run pins s3 σ H3 (fun o H4 => o = some (-1) ∧ H4 = H3) I3 ⟨1, rfl, -1, rfl, rfl, rfl⟩) fun vs s4 ⟨o, H4, I4, ps, eo, e4⟩ => ?_
  subst eo e4
  have I5 : Inv X pins σ H4 { s4 with heap := s4.heap.push { cls := .type "slice", data := .fields #[vl, vu, vs] } } := I4.kept (t' := s4.toks) fun b ob q => Heap.get?_push_of_some _ q
  show wpAny (model X.prog X.w) X.A (subscriptTail e (.Slice none none (some (.UnaryOp .USub (.Constant (.int 1) k p1) p2)) p3) (.ref a) (.ref s4.heap.objs.size)) (EP X pins σ Q) X.xe { s4 with heap := s4.heap.push { cls := .type "slice", data := .fields #[vl, vu, vs] } }
  rcases q with ⟨hx, q⟩ | ⟨hx, q⟩
  · obtain ⟨its, r, ht, hz⟩ := I5.list hx
    have hlen := r.length
    refine tail_any (ops := [.ref a, .ref s4.heap.objs.size]) ht.isList.typeIs (PySem.slot_list_getitem.lookup) ?_ (by with_unfolding_all rfl)
    refine wpAny_getItem_list_slice ht.isList (Heap.IsSliceOf.new _ vl vu vs) pl pu ps (by decide) ?_ (by rw [List.size_toArray]; omega)
    rw [PySem.W.krv_pick]
    refine ⟨.ref _, _, I5.laid (t' := s4.toks) (o := .lst xs.reverse) (fun b ob q => Heap.get?_push_of_some _ q) (Nat.le_refl _) ?_, rfl, q _ (I5.hok.fresh (Nat.le_refl _))⟩
    exact ⟨by rw [List.length_reverse]; exact hz, _, 0, r.reverse, Heap.get?_push_size _ rfl⟩
  · obtain ⟨its, r, ht, hz⟩ := I5.tuple hx
    have hlen := r.length
    refine tail_any (ops := [.ref a, .ref s4.heap.objs.size]) ht.typeIs PyProof.Rows.slot_tuple_getitem.lookup ?_ (by with_unfolding_all rfl)
    refine getItem_tuple_rev ht (Heap.IsSliceOf.new _ vl vu vs) pl pu ps ?_ (by rw [List.size_toArray]; omega)
    refine ⟨.ref _, _, I5.laid (t' := s4.toks) (o := .tup xs.reverse) (fun b ob q => Heap.get?_push_of_some _ q) (Nat.le_refl _) ?_, rfl, q _ (I5.hok.fresh (Nat.le_refl _))⟩
    exact ⟨by rw [List.length_reverse]; exact hz, _, r.reverse, IsTup.new _ _⟩
theorem pd_rev {e : Expr} {k : Nat} {p1 p2 p3 pos : Pos} (ha : PE X e (lift c wa)) (hK : X.K = c.K := by rfl) : PE X (.Subscript e (.Slice none none (some (.UnaryOp .USub (.Constant (.int 1) k p1) p2)) p3) pos) (lift c (wRev wa)) := by
  refine (pe_revA ha).imp fun σ H Q ⟨Γ, T, Qd, hR, hw, k⟩ => ?_
  refine ⟨Γ, T, _, hR, hw, fun r1 Γ1 x H1 q1 R1 => ?_⟩
  obtain ⟨F, E, he, G⟩ := R1
  obtain ⟨d, q, rd⟩ := G.peek (r := r1) (v := x) he (fun z hz => List.mem_append_left _ hz) (by simp) q1
  have fin : ∀ {r : R} {v : V} {F' H' : Hp}, Qd r Γ1 → Good c F' H' ((r, v) :: (E ++ (r1, x) :: T)) → Q v H' := fun {r v F' H'} z G' => k r Γ1 v H' z ⟨F', E, he, (G'.perm (front _ _ _).symm).less ((List.Sublist.refl E).append (.cons₂ _ (.cons _ (List.Sublist.refl _))))⟩
  cases d with
  | tup l =>
    obtain ⟨a, xs, rfl, f, r⟩ := rd
    exact ⟨a, xs, rfl, .inr ⟨by rw [hK]; exact SqT.of (G.sub _ _ f), fun p hp => fin q (G.newTup hp (RepL.reverse r))⟩⟩
  | lst l =>
    obtain ⟨a, xs, rfl, f, r⟩ := rd
    exact ⟨a, xs, rfl, .inl ⟨by rw [hK]; exact SqL.of f, fun p hp => fin (q p) (G.newOwn hp (RepL.reverse r))⟩⟩
  | _ => exact (show False from q).elim
/-! ### enumerate(x), a list or a tuple -/
theorem meets_enum1 {v : Value} {o : Obj} {H : Heap → Prop} (B : Begins v o H) :
    Meets (Builtin.«enumerate.__new__» ⟨[.type "enumerate", v], []⟩) (fun _ R s => H s.heap ∧
      R (.ok (.ret (.ref (s.heap.push o).objs.size))) { s with heap := (s.heap.push o).push { cls := .type "enumerate", data := .fields #[.none, .bool false, .ref s.heap.objs.size, rawInt 0, .none, .none] } }) :=
  .of_wp fun prog w A R s h => by
    obtain ⟨hp, g, d, tk, os⟩ := s; obtain ⟨h1, h⟩ := h
    have hsub := sub_enumerate
    have q1 : ∀ {A' : Around} {E : Value → Shared → Prop} {Q : Value → Shared → Prop}, Q (.ref hp.objs.size) ⟨hp.push o, g, d, tk, os⟩ → wpAny (model prog w) A' (pyIter v) Q E ⟨hp, g, d, tk, os⟩ :=
      fun q => B.iter prog w _ _ ⟨hp, g, d, tk, os⟩ _ h1 q
    wp_walk using q1
    refine wpAny_stack_any fun st => wpAny_pure ?_
    split
    · rename_i c _ _ _ _ _
      cases (c == Value.type "enumerate")
      · wp_walk using q1
        exact ⟨_, rfl, h⟩
      · wp_walk using q1
        exact ⟨_, rfl, h⟩
    · wp_walk using q1
      exact ⟨_, rfl, h⟩
section
variable {prog : Program} {w : World} {A : Around} {E : Value → Shared → Prop} {s : Shared}
theorem call_enum1 {v : Value} {o : Obj} {H : Heap → Prop} {Q : Value → Shared → Prop} (B : Begins v o H) (h1 : H s.heap)
    (h : ∀ h', IsEnum h' (s.heap.objs.size + 1) s.heap.objs.size 0 .none → h'.get? s.heap.objs.size = some o → h'.objs.size = s.heap.objs.size + 2 →
      (∀ b o, s.heap.get? b = some o → h'.get? b = some o) → Q (.ref (s.heap.objs.size + 1)) { s with heap := h' }) :
    wpAny (model prog w) A (call (.type "enumerate") [v]) Q E s := by
  refine callType_new F.called_enumerate (by decide) (F.typeCall_enumerate_1 _) (F.newCall_enumerate_1 _) (fun obj => F.args_object_init_2 obj _) F.entry_enumerate_new
    (meets_enum1 B) ⟨h1, ?_⟩
  have hz : (s.heap.push o).objs.size = s.heap.objs.size + 1 := Heap.size_push ..
  show _ ∧ _
  rw [hz]
  have he : IsEnum ((s.heap.push o).push { cls := .type "enumerate", data := .fields #[.none, .bool false, .ref s.heap.objs.size, rawInt 0, .none, .none] }) (s.heap.objs.size + 1) s.heap.objs.size 0 .none := by
    have := Heap.get?_push_size (s.heap.push o) (o := { cls := .type "enumerate", data := .fields #[.none, .bool false, .ref s.heap.objs.size, rawInt 0, .none, .none] }) rfl
    rw [hz] at this; exact this
  refine ⟨⟨_, he, rfl⟩, h _ he (Heap.get?_push_of_some _ (Heap.get?_push_size _ B.free)) (by rw [Heap.size_push, hz]) fun b o x => Heap.get?_push_of_some _ (Heap.get?_push_of_some _ x)⟩
end
section
variable {prog : Program} {w : World} {A : Around} {E : Value → Shared → Prop} {s : Shared}
theorem enumT_end {e it l : Addr} {i : Nat} {items : Array Value} {old : Value} {Q : Option Value → Shared → Prop} (hh : A.handled = none)
    (he : IsEnum s.heap e it i old) (hit : s.heap.IsTupleIter it l i) (hl : s.heap.IsTuple l items) (hx : items[i]? = none)
    (hQ : ∀ h', Heap.ExtBut it s.heap h' → Q none { s with heap := h' }) : wpAny (model prog w) A (pyNext (.ref e)) Q E s := by
  have hT : s.TypeIs (.ref e) "enumerate" := ⟨_, he, rfl⟩
  unfold pyNext
  refine wpAny_bind (wpAny_attempt (wpAny_callSpecial?_slot (name := Str.ofString "__next__") hT F.slot_enumerate_next
    (wpAny_call_entry F.slot_enumerate_next hT F.entry_enumerate_next ?_ (F.args_enumerate_next_1 _))))
  show wpAny _ _ (field (.ref e) 2 >>= _) _ _ _
  refine wpAny_bind (wpAny_field he rfl (x := .ref it) rfl ?_)
  refine wpAny_bind (wpAny_nextOf_tuple_end hh hit hl hx fun h' x he' hx' => ?_)
  obtain ⟨o, ho, hc⟩ := hx'
  refine wpAny_bind (wpAny_isInstance (T := "StopIteration") (b := true) ⟨o, ho, hc⟩ isSubtype_stop ?_)
  exact wpAny_pure (hQ _ he')
end
/-- the tuple at a as it stands at each turn, each item in a new pair -/
def IteT (K : PySem.W.Frag) (a : Addr) : It :=
  ⟨fun i H => ∃ (xs : List V) (x : V), SqT K H a xs ∧ xs[i]? = some x, fun i H v H' => ∃ T x, v = .ref T ∧ H T = none ∧ H' = upd H T (.tup [.int (i : Nat), x]) ∧ ∀ xs, SqT K H a xs → xs[i]? = some x, fun i H => ∃ xs : List V, SqT K H a xs ∧ xs.length ≤ i⟩
theorem turn_enumT {P : Program} {w : World} {K : PySem.W.Frag} {elts : List Expr} {kk : Nat} {tpos : Pos} (a e it : Addr) :
    Turn P w K (.Tuple elts kk tpos) (IteT K a) [e, it] e (fun i h => (∃ old, IsEnum h e it ((i : Nat) : Int) old) ∧ h.IsTupleIter it a i ∧ e ≠ it) where
  mem := by simp
  obj := fun i h st b hb => by
    obtain ⟨⟨old, he⟩, ⟨o, ho, hc, hd⟩, _⟩ := st
    have e' : b = e ∨ b = it := by simpa using hb
    rcases e' with z | z
    · rw [z]; exact ⟨_, he, fun v q => nomatch q⟩
    · rw [z]; exact ⟨o, ho, fun v q => by rw [hd] at q; cases q⟩
  keep := fun i h h' st k => let ⟨⟨old, he⟩, hi, hne⟩ := st; ⟨⟨old, k e (by simp) _ he⟩, hi.at fun o q => k it (by simp) o q, hne⟩
  item := by
    intro X hP hw hK hc i pins s σ H E I hf st hg
    subst hP hw hK
    obtain ⟨⟨old, he⟩, hit, hne⟩ := st
    obtain ⟨xs, x, hq, hx⟩ := hg
    obtain ⟨its, rv, p, hz⟩ := I.tuple hq
    obtain ⟨u, hu, ru⟩ := rv.get hx
    have hel : e < s.heap.objs.size := Heap.lt_size he
    have hil : it < s.heap.objs.size := by obtain ⟨_, q, _⟩ := hit; exact Heap.lt_size q
    have pT : s.heap.IsTuple a its.toArray := p
    have hai : a ≠ it := fun z => by
      subst z
      obtain ⟨o1, h1, h2, _⟩ := hit
      obtain ⟨o2, h3, h4, _⟩ := pT
      rw [h1] at h3
      cases h3
      rw [h2] at h4
      exact absurd h4 (by decide)
    have hae : a ≠ e := fun z => by
      subst z
      obtain ⟨o2, h3, h4, _⟩ := pT
      rw [he] at h3
      cases h3
      exact absurd (show Value.type "enumerate" = Value.type "tuple" from h4) (by decide)
    have hil2 : i < its.toArray.size := by
      have : i < xs.length := (List.getElem?_eq_some_iff.mp hx).1
      rw [List.size_toArray, ← rv.length]
      exact this
    refine wpAny_pyNext_enum_itemD (Draws.tuple (A := X.A.in1) (I.ok.hd hc) it a hai its.toArray) he ⟨hit, pT⟩ hil2 hne (by simp [hne, Ne.symm hae]) fun x' h' tk hx' ho hst hT hsz hk => ?_
    have ex : x' = u := by
      have z : its.toArray[i]? = some x' := hx'
      have z2 : its.toArray[i]? = some u := by simpa using hu
      rw [z] at z2
      exact Option.some.inj z2
    subst ex
    refine ⟨_, rfl, wpAny_letOwnedTupleGo_enum (s := { s with heap := h', toks := tk + 1 }) ho fun h'' he' sb => ?_⟩
    have hT2 : h''.get? s.heap.objs.size = some { cls := .type "tuple", data := .seq #[.int i tk, x'] } := (sb.2 _ (Nat.ne_of_gt hel)).trans hT
    have new : ObjOk X.prog X.w (upd H s.heap.objs.size (.tup [.int (i : Nat), x])) h'' s.heap.objs.size (.tup [.int (i : Nat), x]) :=
      ⟨by show 2 ≤ sizeLine; decide, [.int i tk, x'], .cons ⟨_, rfl⟩ (.cons ru .nil), ⟨_, hT2, rfl, _, rfl⟩⟩
    have I1 : Inv X pins σ (upd H s.heap.objs.size (.tup [.int (i : Nat), x])) { s with heap := h'', toks := tk + 1 } :=
      I.turnedNew (ch := [e, it]) (fun b ob hb q => (sb.2 b (fun z => hb (by simp [z]))).trans (hk b ob (fun z => hb (by simp [z])) (fun z => hb (by simp [z])) q)) hf (Nat.le_refl _) new
    refine ⟨.ref s.heap.objs.size, _, I1, rfl, ⟨_, x, rfl, I.hok.fresh (Nat.le_refl _), rfl, fun ys hy => by rw [I.tuple_inj hy hq]; exact hx⟩, ⟨⟨x', ?_⟩, hst.1.at fun o q => (sb.2 it (Ne.symm hne)).trans q, hne⟩, fun b hb => ?_⟩
    · have e1 : ((i + 1 : Nat) : Int) = (i : Int) + 1 := by omega
      rw [e1]; exact he'
    · have hb' : b < s.heap.objs.size := by
        have e' : b = e ∨ b = it := by simpa using hb
        rcases e' with z | z
        · rw [z]; exact hel
        · rw [z]; exact hil
      rw [upd_ne (Nat.ne_of_lt hb')]
      exact (hf b hb).1
  done := by
    intro X hP hw hK hc i pins s σ H E I hf st hg
    subst hP hw hK
    obtain ⟨⟨old, he⟩, hit, hne⟩ := st
    obtain ⟨xs, hq, hx⟩ := hg
    obtain ⟨its, rv, p, hz⟩ := I.tuple hq
    obtain ⟨f0, f1, f2, f3, f4, f5⟩ := hf it (by simp)
    have hl := rv.length
    exact enumT_end (I.ok.hd hc) he hit (show s.heap.IsTuple a its.toArray from p) (by simp; omega) fun h' eb => ⟨rfl, I.turned (t' := s.toks) (fun b o hb q => eb b o hb q) f0 f1 f3 f4 f5⟩
  self := fun A i s Q E st h => let ⟨⟨_, he⟩, _⟩ := st; wpAny_pyIter_enum he h
end
def iEnumA (K : PySem.W.Frag) (ta : TA) : TI := fun σ H R => ta σ H fun vs H1 => ∃ a xs, vs = [.ref a] ∧ ((SqL K H1 a xs ∧ R (Ite K a) H1) ∨ (SqT K H1 a xs ∧ R (IteT K a) H1))
theorem pi_enumA {X : Cx} {e : Expr} {ta : TA} {p pos tpos : Pos} {elts : List Expr} {kk : Nat} (hg : Gl X "enumerate") (hm : X.mg "enumerate" = none) (ha : PA X [e] ta) (hs : starEach [e] X.env = [(false, eval e X.env)] := by rfl) :
    PI X (.Tuple elts kk tpos) (.Call (.Name "enumerate" p) [e] [] pos) (iEnumA X.K ta) := by
  refine ⟨fun pins s σ H R I h => ?_⟩
  refine Call_ (ld_blt I hg hm boot_enumerate (PyProof.Rows.callWith_type1 (thn (ha.run pos pins s σ H _ I h) fun us s1 ⟨vs, H1, I1, r1, q1⟩ => ?_) hs rfl))
  obtain ⟨a, xs, ex, q1⟩ := q1
  subst ex
  cases r1 with
  | cons r rr =>
    cases rr
    cases r
    have fresh2 : ∀ b ∈ [s1.heap.objs.size + 1, s1.heap.objs.size], FpOk X pins H1 b := fun b hb => by
      have e' : b = s1.heap.objs.size + 1 ∨ b = s1.heap.objs.size := by simpa using hb
      have hle : s1.heap.objs.size ≤ b := by
        rcases e' with z | z
        · rw [z]; exact Nat.le_add_right _ _
        · rw [z]; exact Nat.le_refl _
      exact I1.fpOk hle (I1.hok.fresh hle)
    rcases q1 with ⟨hq, q⟩ | ⟨hq, q⟩
    · obtain ⟨its, rv, p', hz⟩ := I1.list hq
      refine call_enumerate_list p'.isList fun h' he hit hsz hk => wpAny_pyIter_enum he ?_
      have I2 : Inv X pins σ H1 { s1 with heap := h' } := I1.kept (t' := s1.toks) hk
      exact ⟨s1.heap.objs.size + 1, [s1.heap.objs.size + 1, s1.heap.objs.size], _, _, H1, rfl, I2, turn_enum a (s1.heap.objs.size + 1) s1.heap.objs.size, ⟨⟨.none, he⟩, hit, Nat.succ_ne_self _⟩, fresh2, q⟩
    · obtain ⟨its, rv, p', hz⟩ := I1.tuple hq
      refine call_enum1 (begins_tuple a its.toArray) (show s1.heap.IsTuple a its.toArray from p') fun h' he hit hsz hk => wpAny_pyIter_enum he ?_
      have I2 : Inv X pins σ H1 { s1 with heap := h' } := I1.kept (t' := s1.toks) hk
      exact ⟨s1.heap.objs.size + 1, [s1.heap.objs.size + 1, s1.heap.objs.size], _, _, H1, rfl, I2, turn_enumT a (s1.heap.objs.size + 1) s1.heap.objs.size, ⟨⟨.none, he⟩, ⟨_, hit, rfl, rfl⟩, Nat.succ_ne_self _⟩, fresh2, q⟩
section
variable {X : Cx} {c : Cn} {a b : Expr} {σ : L2.St} {H : Hp} {Γ : Gm} {T : Ls} {pos : Pos} {wa wb : W}
def enumD (l : List D) : List D := (List.range l.length).zipWith (fun (i : Nat) d => .tup [.int i, d]) l
theorem enumD_get {l : List D} {i : Nat} {d : D} (h : (enumD l)[i]? = some d) : ∃ x, l[i]? = some x ∧ d = .tup [.int i, x] := by
  unfold enumD at h
  rw [List.getElem?_zipWith] at h
  cases hx : l[i]? with
  | none => rw [hx] at h; cases hr : (List.range l.length)[i]? <;> rw [hr] at h <;> cases h
  | some x =>
    have hi := (List.getElem?_eq_some_iff.mp hx).1
    rw [hx, List.getElem?_range hi] at h
    cases h
    exact ⟨x, rfl, rfl⟩
theorem enumD_len {l : List D} : (enumD l).length = l.length := by simp [enumD]
def wiEnum (t : WA) : WI := fun Γ Q => t Γ fun rs Γ1 => takes rs Γ1 fun ds Γ2 => match ds with
  | [.lst l] => Q (enumD l) (fun _ => True) Γ2
  | [.tup l] => Q (enumD l) (fun _ => True) Γ2
  | _ => False
theorem epair_end {F : Hp} {E L : Ls} {n : Int} {e : D} {y : V} {p : Addr} (he : Ents Γ σ E) (G : Good c F H (E ++ L)) (hp : H p = none) (re : RepD c.K F e y) : Rel c σ (upd H p (.tup [.int n, y])) Γ ((.dat (.tup [.int n, e]), .ref p) :: L) := by
  have G2 := G.newTup hp (l := [.int n, e]) (xs := [.int n, y]) ⟨.int n, [y], rfl, rfl, y, [], rfl, re, rfl⟩
  exact ⟨_, E, he, G2.perm (front _ _ _).symm⟩
theorem itd_enum {l : List D} {p : Addr} : ItD c (Ite c.K p) (enumD l) (fun _ => True) [(.dat (.lst l), .ref p)] := fun i σ H Γ T R _ => by
  obtain ⟨F, E, he, G⟩ := R
  obtain ⟨a1, xs, e1, f1, r1⟩ : RepD c.K F (.lst l) (.ref p) := G.rep (.dat (.lst l), .ref p) (by simp)
  cases e1
  have hx := SqL.of (K := c.K) (G.sub _ _ f1)
  refine ⟨fun hi => ⟨xs, hx, by rw [enumD_len] at hi; rw [r1.length]; omega⟩, fun d hd => ?_⟩
  obtain ⟨d1, h1, rfl⟩ := enumD_get hd
  obtain ⟨x, x1, x2⟩ := r1.get h1
  refine ⟨⟨xs, x, hx, x1⟩, fun v H' ⟨t, x', ev, hp, eH, k1⟩ => ?_⟩
  have z1 := k1 xs hx
  rw [x1] at z1
  cases z1
  subst ev
  subst eH
  exact epair_end he G hp x2
theorem itd_enumT {l : List D} {p : Addr} : ItD c (IteT c.K p) (enumD l) (fun _ => True) [(.dat (.tup l), .ref p)] := fun i σ H Γ T R _ => by
  obtain ⟨F, E, he, G⟩ := R
  obtain ⟨a1, xs, e1, f1, r1⟩ : RepD c.K F (.tup l) (.ref p) := G.rep (.dat (.tup l), .ref p) (by simp)
  cases e1
  have hx := SqT.of (K := c.K) (G.sub _ _ f1)
  refine ⟨fun hi => ⟨xs, hx, by rw [enumD_len] at hi; rw [r1.length]; omega⟩, fun d hd => ?_⟩
  obtain ⟨d1, h1, rfl⟩ := enumD_get hd
  obtain ⟨x, x1, x2⟩ := r1.get h1
  refine ⟨⟨xs, x, hx, x1⟩, fun v H' ⟨t, x', ev, hp, eH, k1⟩ => ?_⟩
  have z1 := k1 xs hx
  rw [x1] at z1
  cases z1
  subst ev
  subst eH
  exact epair_end he G hp x2
theorem pid_enum {e : Expr} {t : WA} {p tpos : Pos} {elts : List Expr} {kk : Nat} (hm : X.mg "enumerate" = none) (ha : PA X [e] (liftA c t)) (hg : Gl X "enumerate" := by rfl) (hK : X.K = c.K := by rfl)
    (hs : starEach [e] X.env = [(false, eval e X.env)] := by rfl) : PI X (.Tuple elts kk tpos) (.Call (.Name "enumerate" p) [e] [] pos) (liftI c (wiEnum t)) := by
  refine (pi_enumA hg hm ha hs).imp fun σ H Q ⟨Γ, T, Qd, hR, hw, k⟩ => ⟨Γ, T, _, hR, hw, fun rs Γ1 vs H1 q1 hl R1 => ?_⟩
  obtain ⟨ds, Γ2, q2, R2, el⟩ := R1.takes hl q1
  rw [hK]
  split at q2
  · rename_i l
    obtain ⟨v, rfl⟩ : ∃ v, vs = [v] := by
      match vs, el with
      | [v], _ => exact ⟨v, rfl⟩
    have R3 := R2
    obtain ⟨F, E, he, G⟩ := R3
    obtain ⟨p, xs, e1, f1, r1⟩ : RepD c.K F (.lst l) v := G.rep (.dat (.lst l), v) (by simp)
    subst e1
    exact ⟨p, xs, rfl, .inl ⟨SqL.of (G.sub _ _ f1), k _ _ _ _ _ [(.dat (.lst l), .ref p)] q2 R2 itd_enum⟩⟩
  · rename_i l
    obtain ⟨v, rfl⟩ : ∃ v, vs = [v] := by
      match vs, el with
      | [v], _ => exact ⟨v, rfl⟩
    have R3 := R2
    obtain ⟨F, E, he, G⟩ := R3
    obtain ⟨p, xs, e1, f1, r1⟩ : RepD c.K F (.tup l) v := G.rep (.dat (.tup l), v) (by simp)
    subst e1
    exact ⟨p, xs, rfl, .inr ⟨SqT.of (G.sub _ _ f1), k _ _ _ _ _ [(.dat (.tup l), .ref p)] q2 R2 itd_enumT⟩⟩
  · exact q2.elim
end
end Dl
/-! ## sum of a tuple -/
namespace Dl
open PySem PySem.Spec PyProof.Rows
open L2 HT
section
variable {prog : Program} {w : World} {A : Around} {E : Value → Shared → Prop} {s : Shared} {l : Addr} {its : List Value} {ns : List Int} {Q : Value → Shared → Prop}
theorem sum_rawT (hh : A.handled = none) (hl : s.heap.IsTuple l its.toArray) (hi : IntsAre its ns)
    (h : ∀ h' tk t', (∀ b o, s.heap.get? b = some o → h'.get? b = some o) → Q (.int ns.sum t') { s with heap := h', toks := tk }) : wpAny (model prog w) A (call (.builtin "sum") [.ref l]) Q E s := by
  obtain ⟨xs, e⟩ := hi.allInts.items
  have hn : numsOf (intItems xs).toList = ns := by rw [← e]; exact hi.numsOf
  rw [nums_intItems] at hn
  rw [e] at hl
  refine PySem.W.ktm_sumG hh hl fun h' tk t' hk => ?_
  have := h h' tk t' hk
  rw [preSum_eq, List.take_of_length_le (by simp), hn]; exact this
end
section
variable {X : Cx} {c : Cn}
def rSumT (K : PySem.W.Frag) : List V → Hp → VK → Prop := fun vs H Q => ∃ (a : Addr) (ns : List Int), vs = [V.ref a] ∧ SqT K H a (ns.map V.int) ∧ Q (.int ns.sum) H
theorem cr_sumT (hc : X.calm = true) : CallR X (.builtin "sum") (rSumT X.K) := by
  intro pins s σ H vs us Q I r h
  obtain ⟨a, ns, rfl, hs, q⟩ := h
  obtain ⟨its, rv, hl, _⟩ := I.tuple hs
  rw [Vals.ref1 r]
  exact sum_rawT (I.ok.hd hc) (show s.heap.IsTuple a its.toArray from hl) rv.ints fun h' tk t' hk => ⟨.int _, H, I.kept hk, ⟨_, rfl⟩, q⟩
def gSumA : COp
  | [.lst l], k => match dints l with
    | some bs => k (.dat (.int bs.sum))
    | none => False
  | [.tup l], k => match dints l with
    | some bs => k (.dat (.int bs.sum))
    | none => False
  | _, _ => False
theorem ok_sumA (hc : X.calm = true := by rfl) : CbOk X c (.builtin "sum") gSumA := ⟨⟨_, (cr_sum hc).or (cr_sumT hc), fun F H L vs ds Qd Q G rd q k => by
  unfold gSumA at q
  split at q
  · split at q
    · rename_i bs hb
      obtain ⟨x, rfl, a, xs, rfl, f, r⟩ := rdl1 rd
      rw [dints_some hb] at r
      rw [repL_ints' r] at f
      exact .inl ⟨a, bs, rfl, SqL.of f, k _ _ _ _ q (G.also (r := .dat (.int _)) rfl rfl)⟩
    · exact q.elim
  · split at q
    · rename_i l bs hb
      obtain ⟨x, rfl, a, xs, rfl, f, r⟩ := rdl1 rd
      rw [dints_some hb] at r
      rw [repL_ints' r] at f
      exact .inr ⟨a, bs, rfl, SqT.of (G.sub _ _ f), k _ _ _ _ q (G.also (r := .dat (.int _)) rfl rfl)⟩
    · exact q.elim
  · exact q.elim⟩⟩
end
end Dl
/-! ## list(range(n)), tuple(range(n)) -/
namespace Dl
open PySem PySem.Spec PyProof.Rows
open L2
section
variable {X : Cx} {c : Cn} {a b : Expr} {σ : L2.St} {H : Hp} {Γ : Gm} {T : Ls} {pos : Pos} {wa wb : W}
theorem repL_rg {K : PySem.W.Frag} {F : Hp} (n : Int) : RepL K F (rngL 0 n.toNat) (rgV 0 n) := by
  have e1 : rngL 0 n.toNat = ((List.range n.toNat).map fun (i : Nat) => (0 : Int) + (i : Int)).map D.int := by
    unfold rngL
    rw [List.map_map]
    rfl
  have e2 : rgV 0 n = ((List.range n.toNat).map fun (i : Nat) => (0 : Int) + (i : Int)).map V.int := by
    unfold rgV
    rw [List.map_map, Int.sub_zero]
    rfl
  rw [e1, e2]
  exact repL_ints _
def wLstR (wa : W) : W := fun Γ Q => wa Γ fun r Γ1 => match r with
  | .dat (.int n) => (-1000000 ≤ n ∧ n ≤ 1000000) ∧ ∀ a, Q (.lst false a (rngL 0 n.toNat)) Γ1
  | _ => False
def wTupR (wa : W) : W := fun Γ Q => wa Γ fun r Γ1 => match r with
  | .dat (.int n) => (-1000000 ≤ n ∧ n ≤ 1000000) ∧ Q (.dat (.tup (rngL 0 n.toNat))) Γ1
  | _ => False
theorem rgOk_small {n : Int} (h : -1000000 ≤ n ∧ n ≤ 1000000) : RgOk 0 n := ⟨by omega, by omega, by omega, by omega, by omega⟩
theorem PE.imp' {X : Cx} {e : Expr} {t u : TE} (h : PE X e t) (hi : ∀ σ H Q, u σ H Q → t σ H Q) : PE X e u := h.imp hi
theorem prg_imp {e : Expr} {t u : L2.St → Hp → (Int → Int → Hp → Prop) → Prop} (h : PRg X e t) (hi : ∀ σ H Q, u σ H Q → t σ H Q) : PRg X e u := fun pins s σ H Q I k => h pins s σ H Q I (hi _ _ _ k)
theorem pd_lstR {p p2 pos2 : Pos} (hc : X.calm = true) (hml : X.mg "list" = none) (hmr : X.mg "range" = none) (ha : PE X a (lift c wa)) (hgl : Gl X "list" := by rfl) (hgr : Gl X "range" := by rfl)
    (na : starEach [a] X.env = (false, eval a X.env) :: starEach [] X.env := by rfl) (nb : starEach [.Call (.Name "range" p2) [a] [] pos2] X.env = (false, eval (.Call (.Name "range" p2) [a] [] pos2) X.env) :: starEach [] X.env := by rfl) :
    PE X (.Call (.Name "list" p) [.Call (.Name "range" p2) [a] [] pos2] [] pos) (lift c (wLstR wa)) := by
  refine (pe_listRg hc hgl hml (prg_1 hgr hmr ha na) nb).imp fun σ H Q ⟨Γ, T, Qd, hR, hw, k⟩ => ?_
  refine ⟨Γ, T, _, hR, hw, fun r Γ1 v H1 q1 R1 => ?_⟩
  split at q1
  · rename_i n
    refine ⟨n, R1.int, rgOk_small q1.1, fun p hp => k _ _ _ _ (q1.2 p) ?_⟩
    obtain ⟨F, E, he, G⟩ := R1.tail
    exact ⟨F, E, he, (G.newOwn hp (repL_rg n)).perm (front _ _ _).symm⟩
  · exact q1.elim
theorem pd_tupR {p p2 pos2 : Pos} (hc : X.calm = true) (hml : X.mg "tuple" = none) (hmr : X.mg "range" = none) (ha : PE X a (lift c wa)) (hgl : Gl X "tuple" := by rfl) (hgr : Gl X "range" := by rfl)
    (na : starEach [a] X.env = (false, eval a X.env) :: starEach [] X.env := by rfl) (nb : starEach [.Call (.Name "range" p2) [a] [] pos2] X.env = (false, eval (.Call (.Name "range" p2) [a] [] pos2) X.env) :: starEach [] X.env := by rfl) :
    PE X (.Call (.Name "tuple" p) [.Call (.Name "range" p2) [a] [] pos2] [] pos) (lift c (wTupR wa)) := by
  refine (pe_tupRg hc hgl hml (prg_1 hgr hmr ha na) nb).imp fun σ H Q ⟨Γ, T, Qd, hR, hw, k⟩ => ?_
  refine ⟨Γ, T, _, hR, hw, fun r Γ1 v H1 q1 R1 => ?_⟩
  split at q1
  · rename_i n
    refine ⟨n, R1.int, rgOk_small q1.1, fun p hp => k _ _ _ _ q1.2 ?_⟩
    obtain ⟨F, E, he, G⟩ := R1.tail
    exact ⟨_, E, he, (G.newTup hp (repL_rg n)).perm (front _ _ _).symm⟩
  · exact q1.elim
end
end Dl
/-! ## repr of data with empty dicts, str(int) -/
namespace Dl
open PySem PySem.Spec PyProof.Rows
open L2
mutual
/-- leaves, tuples and empty dicts, at most n deep -/
def shd : D → Nat → Bool
  | .tup l, n => decide (0 < n) && shds l (n - 1)
  | .dk ks vs, n => decide (0 < n) && (ks.isEmpty && vs.isEmpty)
  | .non, _ => true
  | .bl _, _ => true
  | .int _, _ => true
  | .str s, _ => PyData.strOk s
  | _, _ => false
def shds : List D → Nat → Bool
  | [], _ => true
  | d :: l, n => shd d n && shds l n
end
mutual
theorem shd_depth : ∀ (d : D) (n : Nat), shd d n = true → (toP d).depth ≤ n
  | .tup l, n, h => by
    have h' : (decide (0 < n) && shds l (n - 1)) = true := h
    rw [Bool.and_eq_true, decide_eq_true_eq] at h'
    have := shds_depth l (n - 1) h'.2
    simp only [toP, PyData.depth]
    omega
  | .dk ks vs, n, h => by
    have h' : (decide (0 < n) && (ks.isEmpty && vs.isEmpty)) = true := h
    rw [Bool.and_eq_true, decide_eq_true_eq] at h'
    simp only [toP, PyData.depth, PyData.depthKv]
    omega
  | .non, _, _ => by simp [toP, PyData.depth]
  | .bl _, _, _ => by simp [toP, PyData.depth]
  | .int _, _, _ => by simp [toP, PyData.depth]
  | .str _, _, _ => by simp [toP, PyData.depth]
  | .lst _, _, h => by cases (show false = true from h)
  | .dt _ _, _, h => by cases (show false = true from h)
  | .scr _, _, h => by cases (show false = true from h)
theorem shds_depth : ∀ (l : List D) (n : Nat), shds l n = true → PyData.depthAll (toPs l) ≤ n
  | [], _, _ => by simp [toPs, PyData.depthAll]
  | d :: l, n, h => by
    have h' : (shd d n && shds l n) = true := h
    rw [Bool.and_eq_true] at h'
    have a := shd_depth d n h'.1
    have b := shds_depth l n h'.2
    simp only [toPs, PyData.depthAll]
    omega
end
section
variable {X : Cx} {pins : List (Addr × Obj)} {σ : L2.St} {H F : Hp} {s : Shared}
theorem dk_reads {a : Addr} (I : Inv X pins σ H s) (h : Rd H a (.dK [])) : Reads s.heap (.ref a) (.dict []) [a] ∧ a ≠ sysModules := by
  obtain ⟨h1, h2, vs, kv, o, es, ep, ho, hx, hd, hk, hp, hn⟩ := Rd.ok h I.hok
  have e0 : vs = [] := by
    cases kv
    rfl
  subst e0
  have e1 : es.toList = [] := by
    cases hq : es.toList with
    | nil => rfl
    | cons a b =>
      rw [hq] at hp
      cases hp
  refine ⟨?_, fun z => ?_⟩
  · have r := Reads.dict (h := s.heap) (a := a) (o := o) (es := es) (n := ep) (kvs := []) (as := []) (bs := []) ho hx.1 hd (by rw [e1]; exact .nil) (by rw [e1]; exact .nil)
    exact r
  · rw [z] at h2
    simp at h2
mutual
theorem shd_reads (I : Inv X pins σ H s) (sm : Same F H) : ∀ (d : D) (n : Nat) (v : V) (u : Value), shd d n = true → RepD X.K F d v → RelV v u → ∃ as, Reads s.heap u (toP d) as ∧ sysModules ∉ as
  | .tup l, n, v, u, h, r, ru => by
    have h' : (decide (0 < n) && shds l (n - 1)) = true := h
    rw [Bool.and_eq_true] at h'
    obtain ⟨a, xs, rfl, f, q⟩ := r
    cases ru
    obtain ⟨its, rv, ⟨o, ho, hc, n', hd⟩, _⟩ := I.tuple (SqT.of (sm _ _ f))
    obtain ⟨as, hr, hn⟩ := shds_reads I sm l _ xs its h'.2 q rv
    exact ⟨_, by simp only [toP]; exact Reads.tuple ho hc hd hr, hn⟩
  | .dk ks vs, n, v, u, h, r, ru => by
    have h' : (decide (0 < n) && (ks.isEmpty && vs.isEmpty)) = true := h
    rw [Bool.and_eq_true, Bool.and_eq_true] at h'
    obtain ⟨a, kvs, rfl, f, e, q⟩ := r
    have ek : ks = [] := by simpa using h'.2.1
    subst ek
    have e0 : kvs = [] := by simpa using e
    subst e0
    cases ru
    obtain ⟨z1, z2⟩ := dk_reads I (.inl (sm _ _ f))
    exact ⟨_, by simp only [toP]; exact z1, by simp [Ne.symm z2]⟩
  | .non, _, v, u, _, r, ru => by
    cases (show v = V.non from r)
    cases ru
    exact ⟨_, by simp only [toP]; exact Reads.none, by simp⟩
  | .bl b, _, v, u, _, r, ru => by
    cases (show v = V.bl b from r)
    cases ru
    exact ⟨_, by simp only [toP]; exact Reads.bool b, by simp⟩
  | .int i, _, v, u, _, r, ru => by
    cases (show v = V.int i from r)
    obtain ⟨t, rfl⟩ := ru
    exact ⟨_, by simp only [toP]; exact Reads.int i t, by simp⟩
  | .str x, _, v, u, _, r, ru => by
    cases (show v = V.str x from r)
    obtain ⟨t, rfl⟩ := ru
    exact ⟨_, by simp only [toP]; exact Reads.str x t, by simp⟩
  | .lst _, _, _, _, h, _, _ => by cases (show false = true from h)
  | .dt _ _, _, _, _, h, _, _ => by cases (show false = true from h)
  | .scr _, _, _, _, h, _, _ => by cases (show false = true from h)
theorem shds_reads (I : Inv X pins σ H s) (sm : Same F H) : ∀ (l : List D) (n : Nat) (xs : List V) (us : List Value), shds l n = true → RepL X.K F l xs → Vals xs us → ∃ as, ReadsAll s.heap us (toPs l) as ∧ sysModules ∉ as
  | [], _, xs, us, _, r, ru => by
    cases (show xs = [] from r)
    cases ru
    exact ⟨_, by simp only [toPs]; exact ReadsAll.nil, by simp⟩
  | d :: l, n, xs, us, h, r, ru => by
    have h' : (shd d n && shds l n) = true := h
    rw [Bool.and_eq_true] at h'
    obtain ⟨x, xr, rfl, r1, r2⟩ := r
    cases ru with
    | cons u1 u2 =>
      obtain ⟨as, q1, n1⟩ := shd_reads I sm d n _ _ h'.1 r1 u1
      obtain ⟨bs, q2, n2⟩ := shds_reads I sm l n _ _ h'.2 r2 u2
      exact ⟨_, by simp only [toPs]; exact ReadsAll.cons q1 q2, by simp [n1, n2]⟩
end
/-- what repr is asked of here: data without a dict, or without a list, its dicts empty -/
def RpE (d : D) : Prop := RpOk d ∨ (shd d 60 = true ∧ (toP d).showable = true ∧ (toP d).shown.length ≤ 1000000)
def gReprE : COp
  | [d], k => RpE d ∧ k (.dat (.str (reprD d)))
  | _, _ => False
variable {c : Cn}
def Rdd (K : PySem.W.Frag) (H : Hp) (d : D) (x : V) : Prop := ∃ F, Same F H ∧ RdD K F H d x
theorem ok_reprE (hu : X.A.units + 65 < cLine) (hgd : X.A.guards = some []) (hK : X.K = c.K := by rfl) : CbOk X c (.builtin "repr") gReprE := by
  obtain ⟨rr, cr, hq⟩ := (ok_repr (X := X) (c := c) hu hgd hK).ex
  refine ⟨⟨_, cr.or (r' := fun vs H Q => ∃ x d, vs = [x] ∧ Rdd X.K H d x ∧ shd d 60 = true ∧ (toP d).showable = true ∧ (toP d).shown.length ≤ 1000000 ∧ (∃ a, x = .ref a) ∧ Q (.str (reprD d)) H) ?_, ?_⟩⟩
  · intro pins s σ H vs us Q I r h0
    obtain ⟨x, d, rfl, ⟨F, sm, rd⟩, hs, hw, hz, ⟨a, rfl⟩, q⟩ := h0
    obtain ⟨u, rfl, ru⟩ := vals1 r
    cases ru
    have dep := shd_depth d 60 hs
    have rr : ∃ as, Reads s.heap (.ref a) (toP d) as ∧ sysModules ∉ as := by
      cases d with
      | dk ks vs =>
        have h' : (decide (0 < 60) && (ks.isEmpty && vs.isEmpty)) = true := hs
        rw [Bool.and_eq_true, Bool.and_eq_true] at h'
        obtain ⟨a', kvs, e', f, e, q⟩ := rd
        cases e'
        have ek : ks = [] := by simpa using h'.2.1
        subst ek
        have e0 : kvs = [] := by simpa using e
        subst e0
        obtain ⟨z1, z2⟩ := dk_reads I f
        exact ⟨_, by simp only [toP]; exact z1, by simp [Ne.symm z2]⟩
      | lst l => cases (show false = true from hs)
      | dt _ _ => cases (show false = true from hs)
      | scr _ => cases (show false = true from hs)
      | non => exact shd_reads I sm _ 60 _ _ hs rd rfl
      | bl b => exact shd_reads I sm _ 60 _ _ hs rd rfl
      | int b => exact shd_reads I sm _ 60 _ _ hs rd rfl
      | str b => exact shd_reads I sm _ 60 _ _ hs rd rfl
      | tup l => exact shd_reads I sm _ 60 _ _ hs rd rfl
    obtain ⟨as, r1, r2⟩ := rr
    exact repr_of_reads' r1 hw (fun _ => r2) hgd (by omega) (fun _ _ e => e) (fun h' u tk k => ⟨.str (reprD d), H, I.kept k, ⟨u, rfl⟩, q⟩) (lineM hz)
  · intro F H L vs ds Qd Q G rd q k
    unfold gReprE at q
    split at q
    · rename_i d
      obtain ⟨q1, q2⟩ := q
      rcases q1 with q1 | ⟨h1, h2, h3⟩
      · exact .inl (hq F H L vs [d] Qd Q G rd ⟨q1, q2⟩ k)
      · obtain ⟨x, rfl, r⟩ := rdl1 rd
        have ha : (∃ a, x = .ref a) ∨ RpOk d := by
          cases d with
          | dk ks vs => obtain ⟨a, _, e, _⟩ := r; exact .inl ⟨a, e⟩
          | tup l => obtain ⟨a, _, e, _⟩ := r; exact .inl ⟨a, e⟩
          | non => exact .inr ⟨rfl, h2, h3⟩
          | bl b => exact .inr ⟨rfl, h2, h3⟩
          | int b => exact .inr ⟨rfl, h2, h3⟩
          | str b => exact .inr ⟨h1, h2, h3⟩
          | lst l => cases (show false = true from h1)
          | dt _ _ => cases (show false = true from h1)
          | scr _ => cases (show false = true from h1)
        rcases ha with ha | ok
        · exact .inr ⟨x, d, rfl, ⟨F, G.sub, by rw [hK]; exact r⟩, h1, h2, h3, ha, k _ _ _ _ q2 (G.also (r := .dat (.str (reprD d))) rfl rfl)⟩
        · exact .inl (hq F H L [x] [d] Qd Q G rd ⟨ok, q2⟩ k)
    · exact q.elim
def gStr : COp
  | [.int i], k => i.natAbs < 1000000000000000000000000000000000000000000000000000000000000 ∧ k (.dat (.str (Str.ofString (toString i))))
  | _, _ => False
theorem ok_str : CbOk X c (.type "str") gStr := ⟨⟨_, call_str_int, fun F H L vs ds Qd Q G rd q k => by
  unfold gStr at q
  split at q
  · rename_i i
    obtain ⟨q1, q2⟩ := q
    obtain ⟨x, rfl, r⟩ := rdl1 rd
    cases (show x = .int i from r)
    exact ⟨i, rfl, by have := log_small q1; omega, k _ _ _ _ q2 (G.also (r := .dat (.str (Str.ofString (toString i)))) rfl rfl)⟩
  · exact q.elim⟩⟩
theorem strOk_of (t : String) : PyData.strOk (Str.ofString t) = true := by
  rw [PySem.Str.ofString_eq_toList]
  unfold PyData.strOk
  rw [← Array.all_toList, List.all_eq_true]
  intro n hn
  simp only [List.mem_map] at hn
  obtain ⟨c, _, rfl⟩ := hn
  have hv := c.valid
  simp only [decide_eq_true_eq]
  have : c.toNat = c.val.toNat := rfl
  rw [this]
  rcases hv with h | ⟨_, h⟩
  · have h : c.val.toNat < 0xd800 := h
    omega
  · have h : c.val.toNat < 0x110000 := h
    omega
end
end Dl
/-! ## is, is not of bools -/
namespace Dl
open PySem PySem.Spec PyProof.Rows
open L2
def gIsB : BOp
  | .bl a, .bl b, k => k (.dat (.bl (decide (a = b))))
  | _, _, _ => False
def gNisB : BOp
  | .bl a, .bl b, k => k (.dat (.bl (!decide (a = b))))
  | _, _, _ => False
section
variable {X : Cx} {c : Cn}
theorem ok_isb : OpOk X c (compareOp .Is) gIsB := ⟨⟨_, op_isBl, fun F H L x y d e Qd Q G rd re q k => by
  unfold gIsB at q
  split at q
  · rename_i a b
    exact ⟨a, b, rd, re, k _ _ _ _ q (G.also (r := .dat (.bl (decide (a = b)))) rfl rfl)⟩
  · exact q.elim⟩⟩
theorem ok_nisb : OpOk X c (compareOp .IsNot) gNisB := ⟨⟨_, op_notBl, fun F H L x y d e Qd Q G rd re q k => by
  unfold gNisB at q
  split at q
  · rename_i a b
    exact ⟨a, b, rd, re, k _ _ _ _ q (G.also (r := .dat (.bl (!decide (a = b)))) rfl rfl)⟩
  · exact q.elim⟩⟩
end
end Dl
/-! ## in of tuples, chains of three -/
namespace Dl
open PySem PySem.Spec PyProof.Rows
open L2
def gInT : BOp := fun d e k => match e with
  | .tup l => sh d 60 = true ∧ sh (.tup l) 60 = true ∧ k (.dat (.bl (l.any fun x => eqD x d)))
  | _ => False
def gNinT : BOp := fun d e k => match e with
  | .tup l => sh d 60 = true ∧ sh (.tup l) 60 = true ∧ k (.dat (.bl (!l.any fun x => eqD x d)))
  | _ => False
section
variable {X : Cx} {c : Cn} {wa wb wc wd : W} {g g' g'' : BOp} {a b : Expr} {pos : Pos}
def rInTd (K : PySem.W.Frag) : R2 := fun x y H Q => ∃ d ds, Dp K H x d ∧ Dp K H y (.tuple ds) ∧ SeqAt.shaped d = true ∧ SeqAt.shaped (.tuple ds) = true ∧ Q (.bl (ds.any fun z => PyData.eqv z d)) H
def rNotInTd (K : PySem.W.Frag) : R2 := fun x y H Q => ∃ d ds, Dp K H x d ∧ Dp K H y (.tuple ds) ∧ SeqAt.shaped d = true ∧ SeqAt.shaped (.tuple ds) = true ∧ Q (.bl (!ds.any fun z => PyData.eqv z d)) H
theorem op_inTd (hu : X.A.units + 65 < cLine) : OpR X (compareOp .In) (rInTd X.K) := by
  intro pins s σ H x y v u Q I rx ry h
  obtain ⟨d, ds, hd, he, sd, se, q⟩ := h
  obtain ⟨as, r1⟩ := Dp.reads I d x v hd rx
  obtain ⟨bs, r2⟩ := Dp.reads I (.tuple ds) y u he ry
  exact SeqAt.in_tuple_reads r2 r1 (SeqAt.canLay_of_shaped se) (SeqAt.canLay_of_shaped sd) (room_in_shaped sd hu) ⟨.bl _, H, I, rfl, q⟩
theorem op_notInTd (hu : X.A.units + 65 < cLine) : OpR X (compareOp .NotIn) (rNotInTd X.K) := by
  intro pins s σ H x y v u Q I rx ry h
  obtain ⟨d, ds, hd, he, sd, se, q⟩ := h
  obtain ⟨as, r1⟩ := Dp.reads I d x v hd rx
  obtain ⟨bs, r2⟩ := Dp.reads I (.tuple ds) y u he ry
  exact SeqAt.notIn_tuple_reads r2 r1 (SeqAt.canLay_of_shaped se) (SeqAt.canLay_of_shaped sd) (room_in_shaped sd hu) ⟨.bl _, H, I, rfl, q⟩
theorem ok_inT (hu : X.A.units + 65 < cLine) (hK : X.K = c.K := by rfl) : OpOk X c (compareOp .In) gInT := ⟨⟨_, op_inTd hu, fun F H L x y d e Qd Q G rd re q k => by
  unfold gInT at q
  split at q
  · rename_i l
    obtain ⟨h1, h2, q⟩ := q
    have z1 := dp_read G.sub h1 rd
    have z2 := dp_read G.sub h2 re
    have z3 := sh_shaped h2
    simp only [toP] at z2 z3
    rw [hK]
    refine ⟨toP d, toPs l, z1, z2, sh_shaped h1, z3, ?_⟩
    rw [toPs_any]
    exact k _ _ _ _ q (G.also (r := .dat (.bl (l.any fun x => eqD x d))) rfl rfl)
  · exact q.elim⟩⟩
theorem ok_ninT (hu : X.A.units + 65 < cLine) (hK : X.K = c.K := by rfl) : OpOk X c (compareOp .NotIn) gNinT := ⟨⟨_, op_notInTd hu, fun F H L x y d e Qd Q G rd re q k => by
  unfold gNinT at q
  split at q
  · rename_i l
    obtain ⟨h1, h2, q⟩ := q
    have z1 := dp_read G.sub h1 rd
    have z2 := dp_read G.sub h2 re
    have z3 := sh_shaped h2
    simp only [toP] at z2 z3
    rw [hK]
    refine ⟨toP d, toPs l, z1, z2, sh_shaped h1, z3, ?_⟩
    rw [toPs_any]
    exact k _ _ _ _ q (G.also (r := .dat (.bl (!l.any fun x => eqD x d))) rfl rfl)
  · exact q.elim⟩⟩
/-! ### a < b < c < d, as a test -/
def tChain3 (r r' r'' : R2) (ta tb tc td : TE) : TE := fun σ H Q => ta σ H fun x H1 => tb σ H1 fun y H2 => r x y H2 fun z H3 => ∃ k, z = .bl k ∧
  (if k = true then tc σ H3 fun w' H4 => r' y w' H4 fun z' H5 => ∃ k', z' = .bl k' ∧ (if k' = true then td σ H5 fun v' H6 => r'' w' v' H6 Q else Q (.bl false) H5) else Q (.bl false) H3)
theorem pt_chain3 {op op' op'' : CmpOp} {r r' r'' : R2} {ta tb tc td : TE} {b1 c1 d1 : Expr} (ho : OpR X (compareOp op) r) (ho' : OpR X (compareOp op') r') (ho'' : OpR X (compareOp op'') r'') (ha : PE X a ta) (hb : PE X b1 tb) (hc : PE X c1 tc) (hd : PE X d1 td)
    (hm : lastMarks [op, op', op''] [b1, c1, d1] = false := by with_unfolding_all rfl) : PT X (.Compare a [op, op', op''] [b1, c1, d1] pos) (tTest (tChain3 r r' r'' ta tb tc td)) := by
  refine ⟨fun pins s σ H Q I h => ?_⟩
  refine isTrue_chain (thn (ha.run pins s σ H _ I h) fun v s1 ⟨x, H1, I1, r1, q1⟩ => test_link (thn (hb.run pins s1 σ H1 _ I1 q1) fun u s2 ⟨y, H2, I2, r2, q2⟩ =>
    thn (ho pins s2 σ H2 x y v u _ I2 r1 r2 q2) fun d s3 ⟨z, H3, I3, r3, k, e, q3⟩ => ?_)) hm
  subst e
  cases r3
  refine wpAny_truthy_bool ?_
  cases k with
  | false =>
    obtain ⟨k', e', q'⟩ := q3
    cases e'
    exact ite_ff ⟨H3, I3, q'⟩
  | true =>
    refine ite_tt (test_link (thn (hc.run pins s3 σ H3 _ I3 q3) fun u2 s4 ⟨y2, H4, I4, r4, q4⟩ =>
      thn (ho' pins s4 σ H4 y y2 u u2 _ I4 r2 r4 q4) fun d' s5 ⟨z2, H5, I5, r5, k2, e2, q5⟩ => ?_))
    subst e2
    cases r5
    refine wpAny_truthy_bool ?_
    cases k2 with
    | false =>
      obtain ⟨k', e', q'⟩ := q5
      cases e'
      exact ite_ff ⟨H5, I5, q'⟩
    | true =>
      refine ite_tt (test_last (thn (hd.run pins s5 σ H5 _ I5 q5) fun w' s6 ⟨z', H6, I6, r6, q6⟩ => thn (ho'' pins s6 σ H6 y2 z' u2 w' _ I6 r4 r6 q6) fun d' s7 ⟨z2, H7, I7, r7, k3, e3, q7⟩ => ?_))
      subst e3
      cases r7
      exact wpAny_truthy_bool ⟨H7, I7, q7⟩
def wChain3 (g g' g'' : BOp) (wa wb wc wd : W) : W := fun Γ Q => wa Γ fun r1 Γ1 => wb Γ1 fun r2 Γ2 => peek Γ2 r1 fun d => peek Γ2 r2 fun e => g d e fun r => match r with
  | .dat (.bl true) => wc Γ2 fun r3 Γ3 => peek Γ3 r2 fun e => peek Γ3 r3 fun f => g' e f fun r => (match r with
    | .dat (.bl true) => wd Γ3 fun r4 Γ4 => peek Γ4 r3 fun e => peek Γ4 r4 fun f => g'' e f fun r => Q r Γ4
    | .dat (.bl false) => Q (.dat (.bl false)) Γ3
    | _ => False)
  | .dat (.bl false) => Q (.dat (.bl false)) Γ2
  | _ => False
theorem chain3_end {σ : L2.St} {H : Hp} {rr rr' rr'' : R2} {Q : VK}
    (h2 : ∀ F H L x y d e Qd Q, Good c F H L → RdD c.K F H d x → RdD c.K F H e y → g d e Qd → (∀ r v H' F', Qd r → Good c F' H' ((r, v) :: L) → Q v H') → rr x y H Q)
    (h2' : ∀ F H L x y d e Qd Q, Good c F H L → RdD c.K F H d x → RdD c.K F H e y → g' d e Qd → (∀ r v H' F', Qd r → Good c F' H' ((r, v) :: L) → Q v H') → rr' x y H Q)
    (h2'' : ∀ F H L x y d e Qd Q, Good c F H L → RdD c.K F H d x → RdD c.K F H e y → g'' d e Qd → (∀ r v H' F', Qd r → Good c F' H' ((r, v) :: L) → Q v H') → rr'' x y H Q)
    (q : lift c (wChain3 g g' g'' wa wb wc wd) σ H Q) : tChain3 rr rr' rr'' (lift c wa) (lift c wb) (lift c wc) (lift c wd) σ H Q := by
  obtain ⟨Γ, T, Qd, hR, hw, k⟩ := q
  refine ⟨Γ, T, _, hR, hw, fun r1 Γ1 x H1 q1 R1 => ⟨Γ1, _, _, R1, q1, fun r2 Γ2 y H2 q2 R2 => ?_⟩⟩
  refine bin_end (Qd := fun r Γ2 => match r with
    | .dat (.bl true) => wc Γ2 fun r3 Γ3 => peek Γ3 r2 fun e => peek Γ3 r3 fun f => g' e f fun r => (match r with
      | .dat (.bl true) => wd Γ3 fun r4 Γ4 => peek Γ4 r3 fun e => peek Γ4 r4 fun f => g'' e f fun r => Qd r Γ4
      | .dat (.bl false) => Qd (.dat (.bl false)) Γ3
      | _ => False)
    | .dat (.bl false) => Qd (.dat (.bl false)) Γ2
    | _ => False) h2 R2 q2 fun r v H' hq R' => ?_
  have hv : ∀ b, r = .dat (.bl b) → v = .bl b := fun b z => by
    obtain ⟨F, E, he, G⟩ := R'
    subst z
    exact G.rep (.dat (.bl b), v) (by simp)
  split at hq
  · refine ⟨true, hv _ rfl, ?_⟩
    rw [if_pos rfl]
    refine ⟨Γ2, _, _, R', hq, fun r3 Γ3 z H3 q3 R3 => ?_⟩
    obtain ⟨F, E, he, G⟩ := R3
    obtain ⟨d, q, rd⟩ := G.peek (r := r2) (v := y) he (fun z hz => List.mem_append_left _ hz) (by simp) q3
    obtain ⟨e, q, re⟩ := G.peek (r := r3) (v := z) he (fun z hz => List.mem_append_left _ hz) (by simp) q
    refine h2' F H3 _ y z d e _ _ G rd re q fun r v H' F' hq G' => ?_
    have R'' : Rel c σ H' Γ3 ((r, v) :: (r3, z) :: T) := ⟨F', E, he, (G'.perm (front _ _ _).symm).less (by
      refine (List.Sublist.refl E).append (List.Sublist.cons₂ _ (List.Sublist.cons₂ _ ?_))
      exact .cons _ (.cons _ (.cons _ (List.Sublist.refl _))))⟩
    have hv' : ∀ b, r = .dat (.bl b) → v = .bl b := fun b z => by
      subst z
      exact G'.rep (.dat (.bl b), v) (by simp)
    split at hq
    · refine ⟨true, hv' _ rfl, ?_⟩
      rw [if_pos rfl]
      refine ⟨Γ3, _, _, R'', hq, fun r4 Γ4 z4 H4 q4 R4 => ?_⟩
      obtain ⟨F4, E4, he4, G4⟩ := R4
      obtain ⟨d4, q, rd4⟩ := G4.peek (r := r3) (v := z) he4 (fun z hz => List.mem_append_left _ hz) (by simp) q4
      obtain ⟨e4, q, re4⟩ := G4.peek (r := r4) (v := z4) he4 (fun z hz => List.mem_append_left _ hz) (by simp) q
      refine h2'' F4 H4 _ z z4 d4 e4 (fun r => Qd r Γ4) Q G4 rd4 re4 q fun r v H' F' hq G' => k r Γ4 v H' hq ⟨F', E4, he4, (G'.perm (front _ _ _).symm).less ?_⟩
      refine (List.Sublist.refl E4).append (List.Sublist.cons₂ _ ?_)
      exact .cons _ (.cons _ (.cons _ (List.Sublist.refl _)))
    · refine ⟨false, hv' _ rfl, ?_⟩
      rw [if_neg Bool.false_ne_true]
      rw [← hv' false rfl]
      exact k _ _ _ _ hq (R''.less (List.Sublist.cons₂ _ (.cons _ (List.Sublist.refl _))))
    · exact hq.elim
  · refine ⟨false, hv _ rfl, ?_⟩
    rw [if_neg Bool.false_ne_true]
    rw [← hv false rfl]
    exact k _ _ _ _ hq (R'.less (List.Sublist.cons₂ _ (.cons _ (.cons _ (List.Sublist.refl _)))))
  · exact hq.elim
theorem ptd_chain3 {op op' op'' : CmpOp} {b' c' d' : Expr} (ho : OpOk X c (compareOp op) g) (ho' : OpOk X c (compareOp op') g') (ho'' : OpOk X c (compareOp op'') g'') (ha : PE X a (lift c wa)) (hb : PE X b' (lift c wb)) (hc : PE X c' (lift c wc)) (hd : PE X d' (lift c wd)) (hm : lastMarks [op, op', op''] [b', c', d'] = false := by with_unfolding_all rfl) :
    PT X (.Compare a [op, op', op''] [b', c', d'] pos) (liftT c (wTv (wChain3 g g' g'' wa wb wc wd))) := by
  obtain ⟨rr, h1, h2⟩ := ho.ex
  obtain ⟨rr', h1', h2'⟩ := ho'.ex
  obtain ⟨rr'', h1'', h2''⟩ := ho''.ex
  exact (pt_chain3 h1 h1' h1'' ha hb hc hd hm).imp fun σ H Q q => test_end (t := tChain3 rr rr' rr'' (lift c wa) (lift c wb) (lift c wc) (lift c wd)) (fun σ H Q z => chain3_end h2 h2' h2'' z) q
end
end Dl
/-! ## things: what repr is asked of -/
namespace Dl
open PySem PySem.Spec PyProof.Rows
open L2
def ThingOk (d : D) : Prop := pl d = true ∧ RpE d
/-- data without a dict -/
structure TOk (n b : Nat) (d : D) : Prop where
  p : pl d = true
  s : sh d n = true
  m : smallD d = true
  k : (toP d).bulk ≤ b
theorem t_thing {b : Nat} {d : D} (h : TOk 60 b d) (hb : b ≤ 4000) : ThingOk d := ⟨h.p, .inl (rp_of h.s h.m (Nat.le_trans h.k hb))⟩
theorem t_int {i : Int} (h : i.natAbs ≤ 1000000) (n b : Nat) : TOk n b (.int i) := by
  refine ⟨rfl, rfl, ?_, by simp only [toP, PyData.bulk]; omega⟩
  have : i.natAbs < 1000000000000000000000000000000000000000000000000000000000000 := by omega
  simp only [smallD, this, decide_true]
theorem t_list {n b : Nat} : ∀ l : List D, (∀ d ∈ l, TOk n b d) → pls l = true ∧ shs l n = true ∧ smallDs l = true ∧ PyData.bulkAll (toPs l) ≤ l.length * (b + 1)
  | [], _ => ⟨rfl, rfl, rfl, by simp [toPs, PyData.bulkAll]⟩
  | d :: l, h => by
    obtain ⟨a, e, f, g⟩ := t_list l fun x hx => h x (List.mem_cons_of_mem _ hx)
    have hd := h d (by simp)
    refine ⟨by simp [pls, hd.p, a], by simp [shs, hd.s, e], by simp [smallDs, hd.m, f], ?_⟩
    have hk := hd.k
    simp only [toPs, PyData.bulkAll, List.length_cons]
    rw [Nat.add_mul]
    omega
theorem t_tup {n b N : Nat} {l : List D} (h : ∀ d ∈ l, TOk n b d) (hl : l.length ≤ N) : TOk (n + 1) (N * (b + 1)) (.tup l) := by
  obtain ⟨a, e, f, g⟩ := t_list l h
  refine ⟨a, ?_, f, ?_⟩
  · show (decide (0 < n + 1) && shs l (n + 1 - 1)) = true
    rw [Nat.add_sub_cancel, e]
    simp
  · simp only [toP, PyData.bulk]
    exact Nat.le_trans g (Nat.mul_le_mul_right _ hl)
theorem t_lst {n b : Nat} {l : List D} (h : TOk (n + 1) b (.tup l)) : TOk (n + 1) b (.lst l) := ⟨h.p, h.s, h.m, h.k⟩
theorem t_mono {n b c : Nat} {d : D} (h : TOk n b d) (hb : b ≤ c) : TOk n c d := ⟨h.p, h.s, h.m, Nat.le_trans h.k hb⟩
/-! data without a list, whose dicts are empty -/
mutual
def smE : D → Bool
  | .int i => decide (i.natAbs < 1000000000000000000000000000000000000000000000000000000000000)
  | .tup l => smEs l
  | .dk ks vs => ks.isEmpty && vs.isEmpty
  | .str s => PyData.strOk s
  | .non => true
  | .bl _ => true
  | _ => false
def smEs : List D → Bool
  | [] => true
  | d :: l => smE d && smEs l
end
mutual
theorem smE_show : ∀ d : D, smE d = true → (toP d).showable = true ∧ (toP d).leavesShort 201 = true
  | .int i, h => small_show (.int i) (by rw [smE] at h; rw [smallD]; exact h)
  | .tup l, h => by
    rw [smE] at h
    simpa only [toP, PyData.showable, PyData.leavesShort] using smEs_show l h
  | .dk [] [], _ => by
    exact ⟨by simp only [toP]; exact rfl, by simp only [toP]; exact rfl⟩
  | .dk (_ :: _) _, h => by rw [smE] at h; cases h
  | .dk [] (_ :: _), h => by rw [smE] at h; cases h
  | .str s, h => small_show (.str s) (by rw [smE] at h; rw [smallD]; exact h)
  | .non, _ => small_show .non rfl
  | .bl b, _ => small_show (.bl b) rfl
  | .lst _, h => by rw [smE] at h <;> cases h
  | .dt _ _, h => by rw [smE] at h <;> cases h
  | .scr _, h => by rw [smE] at h <;> cases h
theorem smEs_show : ∀ l : List D, smEs l = true → PyData.showableAll (toPs l) = true ∧ PyData.leavesShortAll 201 (toPs l) = true
  | [], _ => ⟨by simp only [toPs, PyData.showableAll], by simp only [toPs, PyData.leavesShortAll]⟩
  | d :: l, h => by
    rw [smEs, Bool.and_eq_true] at h
    obtain ⟨a, b⟩ := smE_show d h.1
    obtain ⟨a', b'⟩ := smEs_show l h.2
    exact ⟨by simp only [toPs, PyData.showableAll, a, a', Bool.and_self], by simp only [toPs, PyData.leavesShortAll, b, b', Bool.and_self]⟩
end
structure EOk (n b : Nat) (d : D) : Prop where
  p : pl d = true
  s : shd d n = true
  m : smE d = true
  k : (toP d).bulk ≤ b
theorem e_thing {b : Nat} {d : D} (h : EOk 60 b d) (hb : b ≤ 4000) : ThingOk d := by
  obtain ⟨a, z⟩ := smE_show d h.m
  refine ⟨h.p, .inr ⟨h.s, a, ?_⟩⟩
  have := PyData.shown_le_bulk 201 (by decide) (toP d) z
  have h4 : (201 + 2) * (toP d).bulk ≤ 203 * 4000 := Nat.mul_le_mul (by decide) (Nat.le_trans h.k hb)
  omega
theorem e_int {i : Int} (h : i.natAbs ≤ 1000000) (n b : Nat) : EOk n b (.int i) := by
  refine ⟨rfl, rfl, ?_, by simp only [toP, PyData.bulk]; omega⟩
  have : i.natAbs < 1000000000000000000000000000000000000000000000000000000000000 := by omega
  simp only [smE, this, decide_true]
theorem e_list {n b : Nat} : ∀ l : List D, (∀ d ∈ l, EOk n b d) → pls l = true ∧ shds l n = true ∧ smEs l = true ∧ PyData.bulkAll (toPs l) ≤ l.length * (b + 1)
  | [], _ => ⟨rfl, rfl, rfl, by simp [toPs, PyData.bulkAll]⟩
  | d :: l, h => by
    obtain ⟨a, e, f, g⟩ := e_list l fun x hx => h x (List.mem_cons_of_mem _ hx)
    have hd := h d (by simp)
    refine ⟨by simp [pls, hd.p, a], by simp [shds, hd.s, e], by simp [smEs, hd.m, f], ?_⟩
    have hk := hd.k
    simp only [toPs, PyData.bulkAll, List.length_cons]
    rw [Nat.add_mul]
    omega
theorem e_tup {n b N : Nat} {l : List D} (h : ∀ d ∈ l, EOk n b d) (hl : l.length ≤ N) : EOk (n + 1) (N * (b + 1)) (.tup l) := by
  obtain ⟨a, e, f, g⟩ := e_list l h
  refine ⟨a, ?_, f, ?_⟩
  · show (decide (0 < n + 1) && shds l (n + 1 - 1)) = true
    rw [Nat.add_sub_cancel, e]
    simp
  · simp only [toP, PyData.bulk]
    exact Nat.le_trans g (Nat.mul_le_mul_right _ hl)
theorem e_mono {n b c : Nat} {d : D} (h : EOk n b d) (hb : b ≤ c) : EOk n c d := ⟨h.p, h.s, h.m, Nat.le_trans h.k hb⟩
/-- one of both -/
def XOk (n b : Nat) (d : D) : Prop := TOk n b d ∨ EOk n b d
/-- both: what has neither lists nor dicts -/
def BOk (n b : Nat) (d : D) : Prop := TOk n b d ∧ EOk n b d
theorem b_int {i : Int} (h : i.natAbs ≤ 1000000) (n b : Nat) : BOk n b (.int i) := ⟨t_int h n b, e_int h n b⟩
theorem b_tup {n b N : Nat} {l : List D} (h : ∀ d ∈ l, BOk n b d) (hl : l.length ≤ N) : BOk (n + 1) (N * (b + 1)) (.tup l) := ⟨t_tup (fun d hd => (h d hd).1) hl, e_tup (fun d hd => (h d hd).2) hl⟩
theorem b_mono {n b c : Nat} {d : D} (h : BOk n b d) (hb : b ≤ c) : BOk n c d := ⟨t_mono h.1 hb, e_mono h.2 hb⟩
theorem x_of_b {n b : Nat} {d : D} (h : BOk n b d) : XOk n b d := .inl h.1
theorem x_mono {n b c : Nat} {d : D} (h : XOk n b d) (hb : b ≤ c) : XOk n c d := h.imp (t_mono · hb) (e_mono · hb)
theorem x_thing {b : Nat} {d : D} (h : XOk 60 b d) (hb : b ≤ 4000) : ThingOk d := h.elim (t_thing · hb) (e_thing · hb)
/-- a tuple of such, but for one -/
theorem x_tup {n b N : Nat} {l : List D} {x : D} (hx : XOk n b x) (h : ∀ d ∈ l, d = x ∨ BOk n b d) (hl : l.length ≤ N) : XOk (n + 1) (N * (b + 1)) (.tup l) := by
  rcases hx with hx | hx
  · exact .inl (t_tup (fun d hd => (h d hd).elim (fun e => e ▸ hx) (·.1)) hl)
  · exact .inr (e_tup (fun d hd => (h d hd).elim (fun e => e ▸ hx) (·.2)) hl)
mutual
theorem sh_up : ∀ (d : D) (n m : Nat), n ≤ m → sh d n = true → sh d m = true
  | .tup l, n, m, hnm, h => by
    have h' : (decide (0 < n) && shs l (n - 1)) = true := h
    rw [Bool.and_eq_true, decide_eq_true_eq] at h'
    show (decide (0 < m) && shs l (m - 1)) = true
    rw [shs_up l (n - 1) (m - 1) (by omega) h'.2, decide_eq_true (by omega)]
    rfl
  | .lst l, n, m, hnm, h => by
    have h' : (decide (0 < n) && shs l (n - 1)) = true := h
    rw [Bool.and_eq_true, decide_eq_true_eq] at h'
    show (decide (0 < m) && shs l (m - 1)) = true
    rw [shs_up l (n - 1) (m - 1) (by omega) h'.2, decide_eq_true (by omega)]
    rfl
  | .non, _, _, _, h => h
  | .bl _, _, _, _, h => h
  | .int _, _, _, _, h => h
  | .str _, _, _, _, h => h
  | .dk _ _, _, _, _, h => by cases (show false = true from h)
  | .dt _ _, _, _, _, h => by cases (show false = true from h)
  | .scr _, _, _, _, h => by cases (show false = true from h)
theorem shs_up : ∀ (l : List D) (n m : Nat), n ≤ m → shs l n = true → shs l m = true
  | [], _, _, _, _ => rfl
  | d :: l, n, m, hnm, h => by
    have h' : (sh d n && shs l n) = true := h
    rw [Bool.and_eq_true] at h'
    show (sh d m && shs l m) = true
    rw [sh_up d n m hnm h'.1, shs_up l n m hnm h'.2]
    rfl
end
mutual
theorem shd_up : ∀ (d : D) (n m : Nat), n ≤ m → shd d n = true → shd d m = true
  | .tup l, n, m, hnm, h => by
    have h' : (decide (0 < n) && shds l (n - 1)) = true := h
    rw [Bool.and_eq_true, decide_eq_true_eq] at h'
    show (decide (0 < m) && shds l (m - 1)) = true
    rw [shds_up l (n - 1) (m - 1) (by omega) h'.2, decide_eq_true (by omega)]
    rfl
  | .dk ks vs, n, m, hnm, h => by
    have h' : (decide (0 < n) && (ks.isEmpty && vs.isEmpty)) = true := h
    rw [Bool.and_eq_true, decide_eq_true_eq] at h'
    show (decide (0 < m) && (ks.isEmpty && vs.isEmpty)) = true
    rw [h'.2, decide_eq_true (by omega)]
    rfl
  | .non, _, _, _, h => h
  | .bl _, _, _, _, h => h
  | .int _, _, _, _, h => h
  | .str _, _, _, _, h => h
  | .lst _, _, _, _, h => by cases (show false = true from h)
  | .dt _ _, _, _, _, h => by cases (show false = true from h)
  | .scr _, _, _, _, h => by cases (show false = true from h)
theorem shds_up : ∀ (l : List D) (n m : Nat), n ≤ m → shds l n = true → shds l m = true
  | [], _, _, _, _ => rfl
  | d :: l, n, m, hnm, h => by
    have h' : (shd d n && shds l n) = true := h
    rw [Bool.and_eq_true] at h'
    show (shd d m && shds l m) = true
    rw [shd_up d n m hnm h'.1, shds_up l n m hnm h'.2]
    rfl
end
theorem t_up {n m b : Nat} {d : D} (h : TOk n b d) (hm : n ≤ m) : TOk m b d := ⟨h.p, sh_up d n m hm h.s, h.m, h.k⟩
theorem e_up {n m b : Nat} {d : D} (h : EOk n b d) (hm : n ≤ m) : EOk m b d := ⟨h.p, shd_up d n m hm h.s, h.m, h.k⟩
theorem x_up {n m b : Nat} {d : D} (h : XOk n b d) (hm : n ≤ m) : XOk m b d := h.imp (t_up · hm) (e_up · hm)
theorem b_up {n m b : Nat} {d : D} (h : BOk n b d) (hm : n ≤ m) : BOk m b d := ⟨t_up h.1 hm, e_up h.2 hm⟩
/-- around none, up to so many deep -/
inductive Deep : Nat → D → Prop
  | leaf : Deep 0 .non
  | tup {n : Nat} {d : D} : Deep n d → Deep (n + 1) (.tup [d])
  | lst {n : Nat} {d : D} : Deep n d → Deep (n + 1) (.lst [d])
theorem deep_ok {n : Nat} {d : D} (h : Deep n d) : TOk n (n + 1) d := by
  induction h with
  | leaf => exact ⟨rfl, rfl, rfl, by simp only [toP, PyData.bulk]; decide +kernel⟩
  | @tup n d _ ih => exact t_mono (t_tup (N := 1) (l := [d]) (fun x hx => by rw [List.mem_singleton.mp hx]; exact ih) (by simp)) (by omega)
  | @lst n d _ ih => exact t_mono (t_lst (t_tup (N := 1) (l := [d]) (fun x hx => by rw [List.mem_singleton.mp hx]; exact ih) (by simp))) (by omega)
theorem deep_thing {n : Nat} {d : D} (h : Deep n d) (hn : n ≤ 55) : ThingOk d := t_thing (t_up (deep_ok h) (by omega)) (by omega)
end Dl
/-! ## what repr says tells what was asked -/
namespace Dl
open PySem PySem.Spec PyProof.Rows
open L2
theorem int_text_nat (i : Int) (h : 0 ≤ i) : (toString i).toList = Nat.toDigits 10 i.toNat := by
  rw [Int.toString_eq_repr, Int.repr_eq_if, if_pos h, Nat.toList_repr]
theorem int_text_neg (i : Int) (h : ¬ 0 ≤ i) : (toString i).toList = '-' :: Nat.toDigits 10 (-i).toNat := by
  rw [Int.toString_eq_repr, Int.repr_eq_if, if_neg h, String.toList_append, Nat.toList_repr]
  rfl
theorem no_minus (n : Nat) : '-' ∉ Nat.toDigits 10 n := fun h => by
  have := Nat.isDigit_of_mem_toDigits (by decide) (by decide) h
  revert this
  decide
theorem dig_inj {n m : Nat} (h : Nat.toDigits 10 n = Nat.toDigits 10 m) : n = m := by
  have := congrArg (fun l => Nat.ofDigitChars 10 l 0) h
  simpa only [Nat.ofDigitChars_toDigits (b := 10) (by decide) (by decide)] using this
theorem int_text_inj {i j : Int} (h : (toString i).toList = (toString j).toList) : i = j := by
  by_cases hi : 0 ≤ i <;> by_cases hj : 0 ≤ j
  · rw [int_text_nat i hi, int_text_nat j hj] at h
    have := dig_inj h
    omega
  · rw [int_text_nat i hi, int_text_neg j hj] at h
    exact absurd (h ▸ List.mem_cons_self) (no_minus i.toNat)
  · rw [int_text_neg i hi, int_text_nat j hj] at h
    exact absurd (h.symm ▸ List.mem_cons_self) (no_minus j.toNat)
  · rw [int_text_neg i hi, int_text_neg j hj] at h
    have := dig_inj (List.cons.inj h).2
    omega
theorem cut_at {p : Nat → Bool} : ∀ {a b u v : List Nat}, (∀ c ∈ a, p c = true) → (∀ c ∈ b, p c = true) → (∀ c, u.head? = some c → p c = false) → (∀ c, v.head? = some c → p c = false) → a ++ u = b ++ v → a = b ∧ u = v := by
  intro a b u v ha hb hu hv h
  have tw : ∀ {a u : List Nat}, (∀ c ∈ a, p c = true) → (∀ c, u.head? = some c → p c = false) → (a ++ u).takeWhile p = a := by
    intro a u ha hu
    rw [List.takeWhile_append_of_pos ha]
    cases u with
    | nil => simp
    | cons c u => simp [List.takeWhile, hu c rfl]
  have e := congrArg (List.takeWhile p) h
  rw [tw ha hu, tw hb hv] at e
  subst e
  exact ⟨rfl, List.append_cancel_left h⟩
theorem toNat_inj {a b : List Char} (h : a.map Char.toNat = b.map Char.toNat) : a = b := by
  refine List.map_inj_right (fun x y e => ?_) |>.mp h
  exact Char.ext (UInt32.toNat_inj.mp e)
def cpl (d : D) : List Nat := (reprD d).cps.toList
def strI (s : Str) : Bool := decide ((reprText s).cps.toList = 39 :: (s.cps.toList ++ [39])) && decide (39 ∉ s.cps.toList)
mutual
/-- data that its repr tells -/
def RI : D → Bool
  | .non => true
  | .bl _ => true
  | .int _ => true
  | .str s => strI s
  | .tup l => RIs l
  | .lst l => RIs l
  | .dk ks vs => ks.isEmpty && vs.isEmpty
  | _ => false
def RIs : List D → Bool
  | [] => true
  | d :: l => RI d && RIs l
end
/-- the items of a list, with what stands behind them -/
def its : List D → List Nat → List Nat
  | [], w => w
  | [d], w => cpl d ++ w
  | d :: e :: l, w => cpl d ++ 44 :: 32 :: its (e :: l) w
theorem join_its : ∀ (l : List D) (w : List Nat), (Str.join ", " (PyData.shownAll (toPs l))).cps.toList ++ w = its l w
  | [], w => by
    rw [toPs, PyData.shownAll_nil, join_nil, signs_empty]
    rfl
  | [d], w => by
    rw [toPs, toPs, PyData.shownAll_cons, PyData.shownAll_nil, join_one]
    rfl
  | d :: e :: l, w => by
    have ih := join_its (e :: l) w
    rw [toPs, PyData.shownAll_cons] at ih
    rw [toPs, toPs, PyData.shownAll_cons, PyData.shownAll_cons, join_cons_cons, cps_toList_append, cps_toList_append, List.append_assoc, ih, signs_sep, List.append_assoc]
    rfl
def closeT (l : List D) (u : List Nat) : List Nat := if l.length = 1 then 44 :: 41 :: u else 41 :: u
theorem toPs_len : ∀ l : List D, (toPs l).length = l.length
  | [] => rfl
  | d :: l => by rw [toPs, List.length_cons, List.length_cons, toPs_len l]
theorem cpl_tup (l : List D) (u : List Nat) : cpl (.tup l) ++ u = 40 :: its l (closeT l u) := by
  unfold cpl reprD closeT
  rw [show toP (.tup l) = .tuple (toPs l) by simp only [toP], PyData.shown_tuple, cps_toList_append, cps_toList_append, signs_lparen, toPs_len, ← join_its]
  by_cases h : l.length = 1
  · rw [if_pos (by simpa using h), if_pos h, show ((",)" : String) : Str).cps.toList = [44, 41] by decide]
    simp
  · rw [if_neg (by simpa using h), if_neg h, show ((")" : String) : Str).cps.toList = [41] by decide]
    simp
theorem cpl_lst (l : List D) (u : List Nat) : cpl (.lst l) ++ u = 91 :: its l (93 :: u) := by
  unfold cpl reprD
  rw [show toP (.lst l) = .list (toPs l) by simp only [toP], PyData.shown_list, cps_toList_append, cps_toList_append, signs_lbrack, signs_rbrack, ← join_its]
  simp
theorem cpl_int (i : Int) : cpl (.int i) = (toString i).toList.map Char.toNat := by
  unfold cpl reprD
  rw [show toP (.int i) = .int i by simp only [toP], PyData.shown_int, signs_ofString]
theorem cpl_str {s : Str} (h : strI s = true) : cpl (.str s) = 39 :: (s.cps.toList ++ [39]) ∧ 39 ∉ s.cps.toList := by
  unfold strI at h
  rw [Bool.and_eq_true, decide_eq_true_eq, decide_eq_true_eq] at h
  refine ⟨?_, h.2⟩
  rw [← h.1]
  unfold cpl reprD
  rw [show toP (.str s) = .str s by simp only [toP], PyData.shown_str]
theorem cpl_non : cpl .non = [78, 111, 110, 101] := by
  unfold cpl reprD
  rw [show toP .non = .none by simp only [toP], PyData.shown_none]
  decide
theorem cpl_true : cpl (.bl true) = [84, 114, 117, 101] := by
  unfold cpl reprD
  rw [show toP (.bl true) = .bool true by simp only [toP], PyData.shown_bool]
  decide
theorem cpl_false : cpl (.bl false) = [70, 97, 108, 115, 101] := by
  unfold cpl reprD
  rw [show toP (.bl false) = .bool false by simp only [toP], PyData.shown_bool]
  decide
theorem cpl_dk : cpl (.dk [] []) = [123, 125] := by
  unfold cpl reprD
  rw [show toP (.dk [] []) = .dict [] by simp only [toP], PyData.shown_dict, PyData.shownKv_nil]
  decide
/-- the signs of a number -/
def isDg (c : Nat) : Bool := decide (c = 45) || decide (48 ≤ c ∧ c ≤ 57)
theorem int_signs {i : Int} : ∀ c ∈ cpl (.int i), isDg c = true := fun c hc => by
  rw [cpl_int] at hc
  obtain ⟨ch, h, rfl⟩ := List.mem_map.mp hc
  unfold isDg
  rcases int_sign i ch h with hd | rfl
  · have := digit_range hd
    simp [this]
  · decide
theorem int_ne (i : Int) : ∃ c r, cpl (.int i) = c :: r := by
  cases e : cpl (.int i) with
  | cons c r => exact ⟨c, r, rfl⟩
  | nil =>
    exfalso
    rw [cpl_int] at e
    have e := List.map_eq_nil_iff.mp e
    by_cases h : 0 ≤ i
    · rw [int_text_nat i h] at e
      have := Nat.length_toDigits_pos (b := 10) (n := i.toNat)
      rw [e] at this
      cases this
    · rw [int_text_neg i h] at e
      cases e
def kindOf : D → Nat
  | .non => 0 | .bl true => 1 | .bl false => 2 | .int _ => 3 | .str _ => 4 | .tup _ => 5 | .lst _ => 6 | .dk _ _ => 7 | _ => 8
def headK (c : Nat) : Nat := if c = 78 then 0 else if c = 84 then 1 else if c = 70 then 2 else if isDg c then 3 else if c = 39 then 4 else if c = 40 then 5 else if c = 91 then 6 else if c = 123 then 7 else 9
theorem head_kind : ∀ d : D, RI d = true → ∀ u, ∃ c r, cpl d ++ u = c :: r ∧ headK c = kindOf d
  | .non, _, u => ⟨_, _, by rw [cpl_non]; rfl, rfl⟩
  | .bl true, _, u => ⟨_, _, by rw [cpl_true]; rfl, rfl⟩
  | .bl false, _, u => ⟨_, _, by rw [cpl_false]; rfl, rfl⟩
  | .int i, _, u => by
    obtain ⟨c, r, e⟩ := int_ne i
    have h : isDg c = true := int_signs c (by rw [e]; simp)
    refine ⟨c, r ++ u, by rw [e]; rfl, ?_⟩
    have h2 : c = 45 ∨ (48 ≤ c ∧ c ≤ 57) := by simpa [isDg] using h
    unfold headK
    rw [if_neg (by omega), if_neg (by omega), if_neg (by omega), if_pos h]
    rfl
  | .str s, h, u => ⟨_, _, by rw [(cpl_str h).1]; rfl, rfl⟩
  | .tup l, _, u => ⟨_, _, cpl_tup l u, rfl⟩
  | .lst l, _, u => ⟨_, _, cpl_lst l u, rfl⟩
  | .dk ks vs, h, u => by
    simp only [RI, Bool.and_eq_true, List.isEmpty_iff] at h
    obtain ⟨rfl, rfl⟩ := h
    exact ⟨_, _, by rw [cpl_dk]; rfl, rfl⟩
  | .dt _ _, h, _ => by cases h
  | .scr _, h, _ => by cases h
theorem kind_eq {d e : D} {u v : List Nat} (hd : RI d = true) (he : RI e = true) (h : cpl d ++ u = cpl e ++ v) : kindOf d = kindOf e := by
  obtain ⟨c, r, e1, k1⟩ := head_kind d hd u
  obtain ⟨c', r', e2, k2⟩ := head_kind e he v
  rw [e1, e2] at h
  rw [← k1, ← k2, (List.cons.inj h).1]
/-- what may stand behind a thing -/
def Stop (u : List Nat) : Prop := ∀ c, u.head? = some c → c = 44 ∨ c = 41 ∨ c = 93
def CloseW (w : List Nat) : Prop := ∃ u, w = 41 :: u ∨ w = 93 :: u ∨ w = 44 :: 41 :: u
theorem CloseW.stop {w : List Nat} (h : CloseW w) : Stop w := fun c hc => by
  obtain ⟨u, rfl | rfl | rfl⟩ := h <;> simp at hc <;> omega
theorem closeT_w (l : List D) (u : List Nat) : CloseW (closeT l u) := by
  unfold closeT
  split
  · exact ⟨u, .inr (.inr rfl)⟩
  · exact ⟨u, .inl rfl⟩
theorem Stop.num {u : List Nat} (h : Stop u) : ∀ c, u.head? = some c → isDg c = false := fun c hc => by
  rcases h c hc with rfl | rfl | rfl <;> rfl
theorem close_not {d : D} (hd : RI d = true) {w u : List Nat} (hw : CloseW w) (h : w = cpl d ++ u) : False := by
  obtain ⟨c, r, e, k⟩ := head_kind d hd u
  rw [e] at h
  subst h
  have hk : headK c = 9 := by
    obtain ⟨u, h | h | h⟩ := hw <;> (rw [(List.cons.inj h).1]; rfl)
  rw [hk] at k
  cases d <;> first | (simp only [kindOf] at k; omega) | skip
  rename_i b
  cases b <;> (simp only [kindOf] at k; omega)
theorem comma_not {w u : List Nat} (hw : CloseW w) (h : w = 44 :: 32 :: u) : False := by
  obtain ⟨v, h' | h' | h'⟩ := hw <;> (rw [h'] at h; simp at h)
mutual
theorem ri_inj : ∀ (d : D), RI d = true → ∀ e, RI e = true → ∀ u v, Stop u → Stop v → cpl d ++ u = cpl e ++ v → d = e ∧ u = v
  | .non, hd, e, he, u, v, hu, hv, h => by
    have k := kind_eq hd he h
    cases e <;> first | (simp only [kindOf] at k; omega) | skip
    · exact ⟨rfl, List.append_cancel_left h⟩
    · rename_i b; cases b <;> (simp only [kindOf] at k; omega)
  | .bl b, hd, e, he, u, v, hu, hv, h => by
    have k := kind_eq hd he h
    cases b <;> cases e <;> first | (simp only [kindOf] at k; omega) | skip
    all_goals
      rename_i b
      cases b <;> first | (simp only [kindOf] at k; omega) | exact ⟨rfl, List.append_cancel_left h⟩
  | .int i, hd, e, he, u, v, hu, hv, h => by
    have k := kind_eq hd he h
    cases e <;> first | (simp only [kindOf] at k; omega) | skip
    · rename_i b; cases b <;> (simp only [kindOf] at k; omega)
    · rename_i j
      obtain ⟨a, b⟩ := cut_at (p := isDg) int_signs int_signs hu.num hv.num h
      rw [cpl_int, cpl_int] at a
      rw [int_text_inj (toNat_inj a)]
      exact ⟨rfl, b⟩
  | .str s, hd, e, he, u, v, hu, hv, h => by
    have k := kind_eq hd he h
    cases e <;> first | (simp only [kindOf] at k; omega) | skip
    · rename_i b; cases b <;> (simp only [kindOf] at k; omega)
    · rename_i t
      obtain ⟨e1, n1⟩ := cpl_str hd
      obtain ⟨e2, n2⟩ := cpl_str he
      rw [e1, e2] at h
      have h : (s.cps.toList ++ [39]) ++ u = (t.cps.toList ++ [39]) ++ v := (List.cons.inj h).2
      rw [List.append_assoc, List.append_assoc] at h
      obtain ⟨a, b⟩ := cut_at (p := fun c => decide (c ≠ 39)) (a := s.cps.toList) (b := t.cps.toList) (fun c hc => by
        rw [decide_eq_true_eq]
        rintro rfl
        exact n1 hc) (fun c hc => by
        rw [decide_eq_true_eq]
        rintro rfl
        exact n2 hc) (fun c hc => by
        simp at hc
        simp [← hc]) (fun c hc => by
        simp at hc
        simp [← hc]) h
      rw [str_eq_of_lists a]
      exact ⟨rfl, (List.cons.inj b).2⟩
  | .tup l, hd, e, he, u, v, hu, hv, h => by
    have k := kind_eq hd he h
    cases e <;> first | (simp only [kindOf] at k; omega) | skip
    · rename_i b; cases b <;> (simp only [kindOf] at k; omega)
    · rename_i m
      rw [cpl_tup, cpl_tup] at h
      obtain ⟨rfl, b⟩ := ris_inj l hd m he _ _ (closeT_w l u) (closeT_w m v) (List.cons.inj h).2
      refine ⟨rfl, ?_⟩
      unfold closeT at b
      split at b <;> simpa using b
  | .lst l, hd, e, he, u, v, hu, hv, h => by
    have k := kind_eq hd he h
    cases e <;> first | (simp only [kindOf] at k; omega) | skip
    · rename_i b; cases b <;> (simp only [kindOf] at k; omega)
    · rename_i m
      rw [cpl_lst, cpl_lst] at h
      obtain ⟨rfl, b⟩ := ris_inj l hd m he _ _ ⟨u, .inr (.inl rfl)⟩ ⟨v, .inr (.inl rfl)⟩ (List.cons.inj h).2
      exact ⟨rfl, (List.cons.inj b).2⟩
  | .dk ks vs, hd, e, he, u, v, hu, hv, h => by
    have k := kind_eq hd he h
    cases e <;> first | (simp only [kindOf] at k; omega) | skip
    · rename_i b; cases b <;> (simp only [kindOf] at k; omega)
    · rename_i ks' vs'
      simp only [RI, Bool.and_eq_true, List.isEmpty_iff] at hd he
      obtain ⟨rfl, rfl⟩ := hd
      obtain ⟨rfl, rfl⟩ := he
      exact ⟨rfl, List.append_cancel_left h⟩
  | .dt _ _, hd, _, _, _, _, _, _, _ => by cases hd
  | .scr _, hd, _, _, _, _, _, _, _ => by cases hd
theorem ris_inj : ∀ (l : List D), RIs l = true → ∀ m, RIs m = true → ∀ w z, CloseW w → CloseW z → its l w = its m z → l = m ∧ w = z
  | [], hl, [], hm, w, z, hw, hz, h => ⟨rfl, h⟩
  | [], hl, [e], hm, w, z, hw, hz, h => by
    simp only [RIs, Bool.and_true] at hm
    exact (close_not hm hw h).elim
  | [], hl, e :: f :: m, hm, w, z, hw, hz, h => by
    rw [RIs, Bool.and_eq_true] at hm
    exact (close_not hm.1 hw h).elim
  | [d], hl, [], hm, w, z, hw, hz, h => by
    simp only [RIs, Bool.and_true] at hl
    exact (close_not hl hz h.symm).elim
  | d :: f :: l, hl, [], hm, w, z, hw, hz, h => by
    rw [RIs, Bool.and_eq_true] at hl
    exact (close_not hl.1 hz h.symm).elim
  | [d], hl, [e], hm, w, z, hw, hz, h => by
    simp only [RIs, Bool.and_true] at hl hm
    obtain ⟨rfl, b⟩ := ri_inj d hl e hm w z hw.stop hz.stop h
    exact ⟨rfl, b⟩
  | [d], hl, e :: f :: m, hm, w, z, hw, hz, h => by
    simp only [RIs, Bool.and_true] at hl
    rw [RIs, Bool.and_eq_true] at hm
    obtain ⟨rfl, b⟩ := ri_inj d hl e hm.1 w (44 :: 32 :: its (f :: m) z) hw.stop (fun c hc => by simp at hc; omega) h
    exact (comma_not hw b).elim
  | d :: f :: l, hl, [e], hm, w, z, hw, hz, h => by
    simp only [RIs, Bool.and_true] at hm
    rw [RIs, Bool.and_eq_true] at hl
    obtain ⟨rfl, b⟩ := ri_inj d hl.1 e hm (44 :: 32 :: its (f :: l) w) z (fun c hc => by simp at hc; omega) hz.stop h
    exact (comma_not hz b.symm).elim
  | d :: f :: l, hl, e :: g :: m, hm, w, z, hw, hz, h => by
    rw [RIs, Bool.and_eq_true] at hl hm
    obtain ⟨rfl, b⟩ := ri_inj d hl.1 e hm.1 (44 :: 32 :: its (f :: l) w) (44 :: 32 :: its (g :: m) z) (fun c hc => by simp at hc; omega) (fun c hc => by simp at hc; omega) h
    obtain ⟨b, c⟩ := ris_inj (f :: l) hl.2 (g :: m) hm.2 w z hw hz (List.cons.inj (List.cons.inj b).2).2
    rw [b]
    exact ⟨rfl, c⟩
end
theorem repr_inj {d e : D} (hd : RI d = true) (he : RI e = true) : reprD d = reprD e ↔ d = e := by
  refine ⟨fun h => ?_, fun h => by rw [h]⟩
  have h' : cpl d ++ [] = cpl e ++ [] := by
    unfold cpl
    rw [h]
  exact (ri_inj d hd e he [] [] (fun c hc => by simp at hc) (fun c hc => by simp at hc) h').1
end Dl
/-! ## sorted of a dict whose keys are tuples -/
namespace Dl
open PySem PySem.Spec PyProof.Rows
open L2
section
variable {X : Cx} {c : Cn} {K : PySem.W.Frag} {F H : Hp}
theorem Good.knows : ∀ (l : List (List Key × Addr)) {F : Hp} {L : Ls}, (∀ p ∈ l, H p.2 = some (.tup (p.1.map kV))) → Good c F H L → ∃ F', (∀ p ∈ l, F' p.2 = some (.tup (p.1.map kV))) ∧ Same F F' ∧ Good c F' H L
  | [], F, L, _, G => ⟨F, by simp, fun _ _ e => e, G⟩
  | p :: l, F, L, h, G => by
    obtain ⟨F1, e1, s1, G1⟩ := G.know (h p (by simp))
    obtain ⟨F2, e2, s2, G2⟩ := Good.knows l (fun q hq => h q (List.mem_cons_of_mem _ hq)) G1
    refine ⟨F2, fun q hq => ?_, fun b o e => s2 _ _ (s1 _ _ e), G2⟩
    rcases List.mem_cons.mp hq with rfl | hq
    · exact s2 _ _ e1
    · exact e2 q hq
theorem kt_zip : ∀ {l : List (List Key × V)} {m : List (List Key × Addr × Value)}, KT H l m → ∀ p ∈ (l.map (·.1)).zip (m.map (·.2.1)), H p.2 = some (.tup (p.1.map kV)) := by
  intro l m q
  induction q with
  | nil => intro p hp; cases hp
  | cons h t ih =>
    intro p hp
    simp only [List.map_cons, List.zip_cons_cons, List.mem_cons] at hp
    rcases hp with rfl | hp
    · exact h.2.1
    · exact ih p hp
theorem kt_rep : ∀ {l : List (List Key × V)} {m : List (List Key × Addr × Value)}, KT H l m → (∀ p ∈ (l.map (·.1)).zip (m.map (·.2.1)), F p.2 = some (.tup (p.1.map kV))) → RepL K F (l.map fun w => .tup (w.1.map kD)) (m.map fun x => V.ref x.2.1) := by
  intro l m q
  induction q with
  | nil => intro _; exact rfl
  | @cons p q ps qs h t ih =>
    intro hz
    exact ⟨_, _, rfl, ⟨q.2.1, _, rfl, hz (p.1, q.2.1) (by simp), kDs_rep _⟩, ih fun z hm => hz z (by
      simp only [List.map_cons, List.zip_cons_cons, List.mem_cons]
      exact .inr hm)⟩
theorem vals_refs : ∀ (qs : List Addr) (us : List Value), us.length = qs.length → (∀ (j : Nat) (v : Value) (q : Addr), us[j]? = some v → qs[j]? = some q → v = .ref q) → Vals (qs.map V.ref) us
  | [], [], _, _ => .nil
  | [], _ :: _, e, _ => by simp at e
  | _ :: _, [], e, _ => by simp at e
  | k :: ks, u :: us, e, h => .cons (h 0 u k rfl rfl) (vals_refs ks us (by simpa using e) fun j v k a b => h (j + 1) v k (by simpa using a) (by simpa using b))
def gSortedT : COp
  | [.dt ks _], k => SrtOk (ks.map fun q => .tup (q.map kD)) ∧ ∀ a, k (.lst false a (sortD (ks.map fun q => .tup (q.map kD))))
  | ds, k => gSorted ds k
theorem ok_sortedT (hu : X.A.units + 64 < cLine) (hc : X.calm = true := by rfl) (hK : X.K = c.K := by rfl) : CbOk X c (.builtin "sorted") gSortedT := by
  obtain ⟨rr, cr, hq⟩ := (ok_sorted (X := X) (c := c) hu hc hK).ex
  refine ⟨⟨_, cr.or (r' := fun vs H Q => ∃ a ws, vs = [.ref a] ∧ Rd H a (.dT ws) ∧ SrtOk (ws.map fun w => .tup (w.1.map kD)) ∧ ∀ qs : List Addr, (∀ p ∈ (ws.map (·.1)).zip qs, H p.2 = some (.tup (p.1.map kV))) →
    ∃ F', Same F' H ∧ (∀ p ∈ (ws.map (·.1)).zip qs, F' p.2 = some (.tup (p.1.map kV))) ∧ ∀ p ys, H p = none → RepL c.K F' (sortD (ws.map fun w => .tup (w.1.map kD))) ys → Q (.ref p) (upd H p (.lst ys))) ?_, ?_⟩⟩
  · intro pins s σ H vs us Q I r h0
    obtain ⟨a, ws, rfl, hd, ok, h⟩ := h0
    obtain ⟨u, rfl, ru⟩ := vals1 r
    obtain rfl : u = Value.ref a := ru
    obtain ⟨z, lo, xs, rel, dd⟩ := dt_rd I.hok hd
    obtain ⟨F', sm, kn, q⟩ := h (xs.map (·.2.1)) (kt_zip rel)
    refine sorted_any0 hK hu sm ok (fun Q' h' => ?_) q
    obtain ⟨o, es, ep, ho, hc', hdat, hes, hkeys, hnd⟩ := dd
    have hsz : es.size = xs.length := by rw [← Array.length_toList, hes, List.length_map]
    have hl : ws.length = xs.length := Paired.length rel
    refine PySem.W.kdu_collect (A := X.A.in1) (PySem.KdlSrc.rawDict lo) (I.ok.hd hc) ⟨o, ho, hc', hdat⟩ (by omega) fun h2 tk acc hk hacc => ?_
    refine h' _ (xs.map fun x => V.ref x.2.1) _ (I.kept hk) ?_ (kt_rep rel kn)
    rw [show (xs.map fun x => V.ref x.2.1) = (xs.map (·.2.1)).map V.ref by rw [List.map_map]; rfl]
    refine vals_refs _ _ (by rw [Array.length_toList, hacc.1, hsz, List.length_map]) fun j v k e1 e2 => ?_
    obtain ⟨hi, rfl⟩ := hacc.2 j v (by rw [← Array.getElem?_toList]; exact e1)
    rw [List.getElem?_map] at e2
    obtain ⟨x, e4, rfl⟩ := Option.map_eq_some_iff.mp e2
    have e3 : es.toList[j]? = some es[j] := by rw [Array.getElem?_toList]; exact Array.getElem?_eq_getElem hi
    rw [hes, List.getElem?_map, e4] at e3
    rw [← Option.some.inj e3]
    rfl
  · intro F H L vs ds Qd Q G rd q k
    unfold gSortedT at q
    split at q
    · obtain ⟨x, rfl, a, ws, rfl, f, g, r⟩ := rdl1 rd
      have e : (ws.map fun w => D.tup (w.1.map kD)) = (ws.map (·.1)).map fun q => .tup (q.map kD) := by rw [List.map_map]; rfl
      refine .inr ⟨a, ws, rfl, f, by rw [e, g]; exact q.1, fun qs hqs => ?_⟩
      obtain ⟨F', kn, sf, G'⟩ := G.knows _ hqs
      refine ⟨F', G'.sub, kn, fun p ys hp ry => k _ _ _ _ (q.2 p) (G'.newOwn hp ?_)⟩
      rw [e, g] at ry
      exact ry
    · exact .inl (hq F H L vs ds Qd Q G rd q k)
end
end Dl
/-! ## a, b = x, y where one of both is a cell: both are kept as they come -/
namespace Dl
open PySem PySem.Spec PyProof.Rows
open L2
section
variable {X : Cx} {c : Cn} {a b : Expr} {wa wb : W} {pos : Pos}
/-- an own list, kept from now on as it is -/
def wFz (wa : W) : W := fun Γ Q => wa Γ fun r Γ1 => take r Γ1 fun e Γ2 => Q (.dat e) Γ2
theorem pd_fz (ha : PE X a (lift c wa)) : PE X a (lift c (wFz wa)) := ha.imp fun σ H Q ⟨Γ, T, Qd, hR, hw, k⟩ => ⟨Γ, T, _, hR, hw, fun r Γ1 v H1 q1 R1 => by
  obtain ⟨e, Γ2, q2, R2⟩ := R1.take q1
  exact k _ _ _ _ q2 R2⟩
def wParC (i j : Nat) (wa wb : W) : WS := fun E Γ => wa Γ fun r1 Γ1 => wb Γ1 fun r2 Γ2 => stN i r1 Γ2 fun Γ3 => stN j r2 Γ3 E.nx
theorem psd_parC {i j : Nat} {x y : Str} {px py pt : Pos} {kt k2 pt2} (hc : X.calm = true) (hN : X.N.Nodup) (ha : PE X a (lift c wa)) (hb : PE X b (lift c wb)) (hi : X.N[i]? = some x := by rfl) (hj : X.N[j]? = some y := by rfl)
    (hx : Loc X.env.scope x := by first | exact Or.inl rfl | exact Or.inr rfl) (hy : Loc X.env.scope y := by first | exact Or.inl rfl | exact Or.inr rfl)
    (hfx : X.fn x = true ∨ X.env.scope.names.lookup x = some .local := by first | exact .inl rfl | exact .inr rfl) (hfy : X.fn y = true ∨ X.env.scope.names.lookup y = some .local := by first | exact .inl rfl | exact .inr rfl)
    (hw : swappedStores [.Tuple [.Name x px, .Name y py] kt pt] (.Tuple [a, b] k2 pt2) X.env = pure none := by rfl)
    (hs : swapsWithSole [.Tuple [.Name x px, .Name y py] kt pt] (.Tuple [a, b] k2 pt2) pos.line X.env = pure false := by rfl) (hs1 : starEach [a, b] X.env = (false, eval a X.env) :: starEach [b] X.env := by rfl) (hs2 : starEach [b] X.env = (false, eval b X.env) :: starEach [] X.env := by rfl)
    (h1 : (assignEach [.Tuple [.Name x px, .Name y py] kt pt] X.env).map (·.2) = [assign (.Tuple [.Name x px, .Name y py] kt pt) X.env] := by rfl)
    (hn : (assignEach [.Name x px, .Name y py] X.env).length = 2 := by rfl) (hst : (assignEach [.Name x px, .Name y py] X.env).findIdx? (·.1) = none := by rfl) (hK : X.K = c.K := by rfl)
    (hc1 : (assignEach [.Name x px, .Name y py] X.env).map (·.2) = assign (.Name x px) X.env :: (assignEach [.Name y py] X.env).map (·.2) := by rfl)
    (hc2 : (assignEach [.Name y py] X.env).map (·.2) = assign (.Name y py) X.env :: (assignEach [] X.env).map (·.2) := by rfl) :
    PS X (.Assign [.Tuple [.Name x px, .Name y py] kt pt] (.Tuple [a, b] k2 pt2) pos) (liftS c (wParC i j wa wb)) :=
  (ps_asg (pe_tup (pa_cons ha (pa_cons hb pa_nil hs2) hs1)) (pg_tup hc (pgs_cons (pg_name hN hi hx hfx) (pgs_cons (pg_name hN hj hy hfy) pgs_nil hc2) hc1) hn hst) hs hw h1).imp fun E σ H ⟨Γ, T, Ed, hR, hw, k1, k2⟩ => by
    refine ⟨Γ, T, _, hR, hw, fun r1 Γ1 v H1 q1 R1 => ⟨Γ1, _, _, R1, q1, fun r2 Γ2 w H2 q2 R2 => ?_⟩⟩
    refine ⟨lineM (by simp), fun p hp => ?_⟩
    obtain ⟨F, E0, he, G⟩ := R2
    have R3 : Rel c σ (upd H2 p (.tup [v, w])) Γ2 ((r2, w) :: (r1, v) :: T) := ⟨_, E0, he, G.lay hp⟩
    refine ⟨p, [v, w], rfl, SqT.of upd_same, rfl, v, [w], rfl, w, [], rfl, rfl, ?_⟩
    have R4 : Rel c σ (upd H2 p (.tup [v, w])) Γ2 ((r1, v) :: (r2, w) :: T) := by
      obtain ⟨F, E0, he, G⟩ := R3
      exact ⟨F, E0, he, G.perm (List.Perm.append_left E0 (List.Perm.swap _ _ _))⟩
    obtain ⟨Γ3, q3, R5⟩ := R4.store q2
    obtain ⟨Γ4, q4, R6⟩ := R5.store q3
    exact k1 _ _ _ q4 R6
end
end Dl
/-! ## a repr's signs are such as a text may have -/
namespace Dl
open PySem PySem.Spec PyProof.Rows
open L2
def Low (l : List Nat) : Prop := ∀ c ∈ l, c < 1114112
theorem Low.app {a b : List Nat} (h : Low a) (h' : Low b) : Low (a ++ b) := fun c hc => (List.mem_append.mp hc).elim (h c) (h' c)
theorem Low.cons {a : Nat} {b : List Nat} (h : a < 1114112) (h' : Low b) : Low (a :: b) := fun c hc => (List.mem_cons.mp hc).elim (fun e => e ▸ h) (h' c)
theorem Low.nil : Low [] := fun _ h => by cases h
theorem low_str {s : Str} (h : PyData.strOk s = true) : Low s.cps.toList := fun c hc => by
  unfold PyData.strOk at h
  rw [← Array.all_toList, List.all_eq_true] at h
  simpa using h c hc
mutual
def SK : D → Bool
  | .str s => PyData.strOk s
  | .tup l => SKs l
  | .lst l => SKs l
  | _ => true
def SKs : List D → Bool
  | [] => true
  | d :: l => SK d && SKs l
end
mutual
theorem sh_sk : ∀ (d : D) (n : Nat), sh d n = true → SK d = true
  | .str s, n, h => h
  | .tup l, n, h => by
    have h' : (decide (0 < n) && shs l (n - 1)) = true := h
    rw [Bool.and_eq_true] at h'
    exact shs_sk l _ h'.2
  | .lst l, n, h => by
    have h' : (decide (0 < n) && shs l (n - 1)) = true := h
    rw [Bool.and_eq_true] at h'
    exact shs_sk l _ h'.2
  | .non, _, _ => rfl
  | .bl _, _, _ => rfl
  | .int _, _, _ => rfl
  | .dk _ _, _, _ => rfl
  | .dt _ _, _, _ => rfl
  | .scr _, _, _ => rfl
theorem shs_sk : ∀ (l : List D) (n : Nat), shs l n = true → SKs l = true
  | [], _, _ => rfl
  | d :: l, n, h => by
    have h' : (sh d n && shs l n) = true := h
    rw [Bool.and_eq_true] at h'
    show (SK d && SKs l) = true
    rw [sh_sk d n h'.1, shs_sk l n h'.2]
    rfl
end
mutual
theorem shd_sk : ∀ (d : D) (n : Nat), shd d n = true → SK d = true
  | .str s, n, h => h
  | .tup l, n, h => by
    have h' : (decide (0 < n) && shds l (n - 1)) = true := h
    rw [Bool.and_eq_true] at h'
    exact shds_sk l _ h'.2
  | .lst l, n, h => by cases (show false = true from h)
  | .non, _, _ => rfl
  | .bl _, _, _ => rfl
  | .int _, _, _ => rfl
  | .dk _ _, _, _ => rfl
  | .dt _ _, _, _ => rfl
  | .scr _, _, _ => rfl
theorem shds_sk : ∀ (l : List D) (n : Nat), shds l n = true → SKs l = true
  | [], _, _ => rfl
  | d :: l, n, h => by
    have h' : (shd d n && shds l n) = true := h
    rw [Bool.and_eq_true] at h'
    show (SK d && SKs l) = true
    rw [shd_sk d n h'.1, shds_sk l n h'.2]
    rfl
end
theorem thing_sk {d : D} (h : ThingOk d) : SK d = true := by
  rcases h.2 with h | h
  · exact sh_sk d 60 h.sh
  · exact shd_sk d 60 h.1
theorem int_low (i : Int) : Low (cpl (.int i)) := fun c hc => by
  have h := int_signs c hc
  have : c = 45 ∨ (48 ≤ c ∧ c ≤ 57) := by simpa [isDg] using h
  omega
theorem closeT_low (l : List D) : Low (closeT l []) := by
  unfold closeT
  split
  · exact .cons (by decide) (.cons (by decide) .nil)
  · exact .cons (by decide) .nil
mutual
theorem cpl_low : ∀ d : D, RI d = true → SK d = true → Low (cpl d)
  | .non, _, _ => by
    rw [cpl_non]
    intro c hc
    simp at hc
    omega
  | .bl true, _, _ => by
    rw [cpl_true]
    intro c hc
    simp at hc
    omega
  | .bl false, _, _ => by
    rw [cpl_false]
    intro c hc
    simp at hc
    omega
  | .int i, _, _ => int_low i
  | .str s, h, k => by
    rw [(cpl_str h).1]
    exact .cons (by decide) ((low_str k).app (.cons (by decide) .nil))
  | .tup l, h, k => by
    have e := cpl_tup l []
    rw [List.append_nil] at e
    rw [e]
    exact .cons (by decide) (its_low l h k _ (closeT_low l))
  | .lst l, h, k => by
    have e := cpl_lst l []
    rw [List.append_nil] at e
    rw [e]
    exact .cons (by decide) (its_low l h k _ (.cons (by decide) .nil))
  | .dk ks vs, h, _ => by
    simp only [RI, Bool.and_eq_true, List.isEmpty_iff] at h
    obtain ⟨rfl, rfl⟩ := h
    rw [cpl_dk]
    intro c hc
    simp at hc
    omega
  | .dt _ _, h, _ => by cases h
  | .scr _, h, _ => by cases h
theorem its_low : ∀ l : List D, RIs l = true → SKs l = true → ∀ w, Low w → Low (its l w)
  | [], _, _, w, hw => hw
  | [d], h, k, w, hw => by
    simp only [RIs, SKs, Bool.and_true] at h k
    exact (cpl_low d h k).app hw
  | d :: e :: l, h, k, w, hw => by
    rw [RIs, Bool.and_eq_true] at h
    rw [SKs, Bool.and_eq_true] at k
    exact (cpl_low d h.1 k.1).app (.cons (by decide) (.cons (by decide) (its_low (e :: l) h.2 k.2 w hw)))
end
theorem repr_ok {d : D} (h : ThingOk d) (hr : RI d = true) : PyData.strOk (reprD d) = true := by
  have := cpl_low d hr (thing_sk h)
  unfold PyData.strOk
  rw [← Array.all_toList, List.all_eq_true]
  intro c hc
  simpa using this c hc
theorem eqD_str (a b : Str) : eqD (.str a) (.str b) = decide (a = b) := by
  unfold eqD
  by_cases h : a = b <;> simp [toP, PyData.eqv, h]
theorem shs_strs (n : Nat) : ∀ l : List Str, (∀ s ∈ l, PyData.strOk s = true) → shs (l.map D.str) n = true
  | [], _ => rfl
  | s :: l, h => by
    rw [List.map_cons, shs]
    rw [shs_strs n l fun t ht => h t (List.mem_cons_of_mem _ ht)]
    rw [show sh (.str s) n = true from h s (by simp)]
    rfl
theorem any_strs (l : List Str) (s : Str) : ((l.map D.str).any fun x => eqD x (.str s)) = decide (s ∈ l) := by
  induction l with
  | nil => rfl
  | cons t l ih =>
    rw [List.map_cons, List.any_cons, ih, eqD_str]
    by_cases h : t = s
    · subst h
      simp
    · by_cases h2 : s ∈ l
      · simp [h2]
      · simp [h, h2, Ne.symm h]
end Dl
/-! ## t < u of tuples of ints, l.count(i) -/
namespace Dl
open PySem PySem.Spec PyProof.Rows
open L2
section
variable {X : Cx} {c : Cn} {K : PySem.W.Frag} {F H : Hp}
def gLtT : BOp
  | .int i, .int j, k => k (.dat (.bl (decide (i < j))))
  | .tup l, .tup m, k => (match dints l, dints m with
    | some ns, some ms => k (.dat (.bl (HT.lexLt ns ms)))
    | _, _ => False)
  | _, _, _ => False
theorem ok_ltT (hu : X.A.units < cLine) (hK : X.K = c.K := by rfl) : OpOk X c (compareOp .Lt) gLtT := ⟨⟨_, op_lt.or (op_ltT hu), fun F H L x y d e Qd Q G rd re q k => by
  unfold gLtT at q
  split at q
  · rename_i i j
    exact .inl ⟨i, j, rd, re, k _ _ _ _ q (G.also (r := .dat (.bl (decide (i < j)))) rfl rfl)⟩
  · split at q
    · rename_i l m ns ms h1 h2
      obtain ⟨a, xs, rfl, f, r1⟩ := rd
      obtain ⟨b, ys, rfl, f', r2⟩ := re
      rw [dints_some h1] at r1
      rw [dints_some h2] at r2
      rw [repL_ints' r1] at f
      rw [repL_ints' r2] at f'
      exact .inr ⟨a, b, ns, ms, rfl, rfl, SqT.of (G.sub _ _ f), SqT.of (G.sub _ _ f'), k _ _ _ _ q (G.also (r := .dat (.bl (HT.lexLt ns ms))) rfl rfl)⟩
    · exact q.elim
  · exact q.elim⟩⟩
theorem upd_id {H : Hp} {a : Addr} {o : _} (h : H a = some o) : upd H a o = H := by
  funext b
  unfold upd
  split
  · rename_i e
    subst e
    exact h.symm
  · rfl
def mCount : MOp := fun l ds k => match ds, dints l with
  | [.int i], some ns => k (.int (ns.count i : Nat)) l
  | _, _ => False
theorem ok_count (hK : X.K = c.K := by rfl) : MtOk X "list.count" mCount := ⟨⟨_, mt_lcount, fun K F H a l xs ds vs Qd Q s hx rl rd q k => by
  unfold mCount at q
  split at q
  · rename_i i ns h1
    obtain ⟨x, rfl, r⟩ := repL1 rd
    have h2 := dints_some h1
    subst h2
    rw [repL_ints' rl] at hx
    have e : upd H a (.lst (ns.map V.int)) = H := upd_id hx
    refine ⟨a, ns, i, rfl, by rw [show x = .int i from r], SqL.of hx, ?_⟩
    have := k _ _ (.int (ns.count i : Nat)) (ns.map V.int) q (by rw [← repL_ints' rl]; exact rl) rfl
    rw [e] at this
    exact this
  · exact q.elim⟩⟩
end
end Dl
/-! ## {1: 2, 3: 4}: a dict of ints written out -/
namespace Dl
open PySem PySem.Spec PyProof.Rows
open L2
section
variable {X : Cx} {c : Cn} {K : PySem.W.Frag} {F H : Hp}
def wDispI (kvs : List (Int × Int)) : W := fun Γ Q => ∀ a, Q (.dk false none a (kvs.map fun p => (.inl p.1, .int p.2))) Γ
def trsI (kvs : List (Int × Int)) : List (TE × TE) := kvs.map fun p => (tC (.int p.1), tC (.int p.2))
theorem pairs_const : ∀ (kvs : List (Int × Int)) (σ : L2.St) (H : Hp) (Q : List (V × V) → Hp → Prop), Q (kvs.map fun p => (V.int p.1, V.int p.2)) H → tPairs (trsI kvs) σ H Q
  | [], _, _, _, q => q
  | p :: kvs, σ, H, Q, q => pairs_const kvs σ H (fun ps H3 => Q ((V.int p.1, V.int p.2) :: ps) H3) q
theorem rep_const {F : Hp} : ∀ kvs : List (Int × Int), RepL K F ((kvs.map fun p => ((Sum.inl p.1 : Key), D.int p.2)).map (·.2)) ((kvs.map fun p => ((Sum.inl p.1 : Key), V.int p.2)).map (·.2))
  | [] => rfl
  | p :: kvs => ⟨_, _, rfl, rfl, rep_const kvs⟩
theorem pd_dispI {pos : Pos} {keys : List (Option Expr)} {values : List Expr} {kvs : List (Int × Int)} (h : PPs X pos keys values (trsI kvs)) (hall : keys.all (·.isSome) = true) (hl : keys.length = values.length) (h0 : keys ≠ []) (h15 : keys.length ≤ 15) (hk : kvs.length ≤ 15)
    (hm : mergeK [] (kvs.map fun p => ((Sum.inl p.1 : Key), V.int p.2)) = kvs.map fun p => ((Sum.inl p.1 : Key), V.int p.2)) : PE X (.Dict keys values pos) (lift c (wDispI kvs)) :=
  (pe_disp h hall hl h0 h15).imp fun σ H Q ⟨Γ, T, Qd, ⟨F, E, he, G⟩, hw, k⟩ p hp => by
    refine pairs_const kvs σ _ _ ⟨upd_same, kvs.map fun p => ((Sum.inl p.1 : Key), V.int p.2), ?_, by rw [List.length_map]; exact hk, ?_⟩
    · rw [List.map_map]
      rfl
    · rw [hm, L2.upd_upd]
      exact k _ _ _ _ (hw p) ⟨F, E, he, (G.newDk (kvs := kvs.map fun p => ((Sum.inl p.1 : Key), D.int p.2)) (ws := kvs.map fun p => ((Sum.inl p.1 : Key), V.int p.2)) hp (by rw [List.map_map, List.map_map]; rfl) (rep_const kvs)).perm (front _ _ _).symm⟩
end
/-- the scope of the block around, told -/
theorem blk_at {N N' : List Str} {S S' scope : Scope} {own : List (Str × Nat)} (hN : N' = N) (hS : S' = S) (h : blkC N S scope own = true) : blkC N' S' scope own = true := by
  rw [hN, hS]
  exact h
end Dl
/-! ## methods that only read: l.index(i); l[:0:-1] -/
namespace Dl
open PySem PySem.Spec PyProof.Rows
open L2
section
variable {X : Cx} {c : Cn} {K : PySem.W.Frag} {F H : Hp} {wa : W}
def tyD (T : String) : D → Prop
  | .lst _ => T = "list"
  | .str _ => T = "str"
  | _ => False
def wRd (T : String) (g : COp) (wo : W) (t : WA) : W := fun Γ Q => wo Γ fun r Γ1 => peek Γ1 r (tyD T) ∧ t Γ1 fun rs Γ2 => peeks Γ2 (r :: rs) fun ds => g ds fun r' => Q r' Γ2
structure MrOk (X : Cx) (c : Cn) (id : String) (g : COp) : Prop where
  ex : ∃ rr, MtR X id rr ∧ ∀ F H L x vs ds Qd Q, Good c F H L → RdL c.K F H ds (x :: vs) → g ds Qd → (∀ r v H' F', Qd r → Good c F' H' ((r, v) :: L) → Q v H') → rr x vs H Q
theorem pd_rd {T : String} {g : COp} {o e : Expr} {t : WA} {name : Str} {id : String} {apos cpos : Pos} {es : List Expr} (ho : MrOk X c id g) (pa : PlainAttrs T) (slot : Slot T name id) (hty : typeOf (.builtin id) = pure (.type "method_descriptor"))
    (hb : PE X o (lift c wa)) (ha : PA X (e :: es) (liftA c t)) (hK : X.K = c.K := by rfl)
    (hbase : attributeBase o name X.env (eval o X.env) = eval o X.env := by rfl)
    (hfew : ((backTo cpos (starEach (e :: es) X.env)).all (fun x => !x.1) && (backToKw cpos (keywordEach [] X.env)).all (fun x => x.1.isSome) && decide ((e :: es).length + ([] : List Keyword).length + (if ([] : List Keyword).isEmpty then 0 else 1) < 30)) = true := by rfl)
    (hline : (apos.endLine == cpos.line) = true := by rfl) (hs : starEach (e :: es) X.env = (false, eval e X.env) :: starEach es X.env := by rfl) (hplain : (backTo cpos (starEach es X.env)).any (·.1) = false := by rfl) :
    PE X (.Call (.Attribute o name apos) (e :: es) [] cpos) (lift c (wRd T g wa t)) := by
  obtain ⟨rr, h1, h2⟩ := ho.ex
  refine (pe_bm pa slot hty h1 hb ha hbase hfew hline hs hplain).imp fun σ H Q ⟨Γ, Tp, Qd, hR, hw, k⟩ => ?_
  refine ⟨Γ, Tp, _, hR, hw, fun r Γ1 x H1 q1 R1 => ⟨?_, Γ1, _, _, R1, q1.2, fun rs Γ2 vs H2 q2 hl R2 => ?_⟩⟩
  · obtain ⟨F, E, he, G⟩ := R1
    obtain ⟨d, q, rd⟩ := G.peek (r := r) (v := x) he (fun z hz => List.mem_append_left _ hz) (by simp) q1.1
    cases d with
    | lst l =>
      obtain ⟨a, xs, rfl, f, r⟩ := rd
      exact .inl ⟨q, xs, by rw [hK]; exact SqL.of f⟩
    | str s =>
      obtain rfl : x = .str s := rd
      exact q
    | _ => exact (show False from q).elim
  · obtain ⟨F, E, he, G⟩ := R2
    obtain ⟨ds, q, rd⟩ := G.peeks (rs := r :: rs) (vs := x :: vs) he (fun z hz => List.mem_append_left _ hz) (by simp [hl]) (fun z hz => by
      simp only [List.zip_cons_cons, List.mem_cons] at hz
      rcases hz with rfl | hz
      · simp
      · exact List.mem_append_right _ (List.mem_append_left _ hz)) q2
    refine h2 F H2 _ x vs ds (fun r' => Qd r' Γ2) Q G rd q fun r' v H' F' hq G' => k r' Γ2 v H' hq ⟨F', E, he, (G'.perm (front _ _ _).symm).less ?_⟩
    exact (List.Sublist.refl E).append (.cons₂ _ ((List.sublist_cons_self _ _).trans (List.sublist_append_right _ _)))
def rIdxI (K : PySem.W.Frag) : V → List V → Hp → VK → Prop := fun x xs H Q => ∃ (p : Addr) (ns : List Int) (k : Int), x = .ref p ∧ xs = [.int k] ∧ SqL K H p (ns.map V.int) ∧ k ∈ ns ∧ Q (.int (ns.idxOf k : Nat)) H
theorem mt_lindex : MtR X "list.index" (rIdxI X.K) := by
  intro pins s σ H x xs v us Q I rx rxs h
  obtain ⟨p, ns, k, rfl, rfl, hs, hk, q⟩ := h
  cases rx
  obtain ⟨u, rfl, ru⟩ := rxs.one
  obtain ⟨t, rfl⟩ := ru
  obtain ⟨its, rv, ⟨⟨cls, dd, data, sl⟩, n, ho, hc, hdn, hd⟩, hlen⟩ := I.list hs
  simp only at hc hd
  subst hc hd
  have hi := ints_of_vals rv
  have hl := hi.length
  have hj : ns.idxOf k < ns.length := List.idxOf_lt_length_iff.mpr hk
  rw [List.length_map] at hlen
  have hz : sizeLine < 2 ^ 63 - 1 := by decide
  have h9 : ns.idxOf k < its.length := by omega
  refine call_meets PySem.F.slot_list_index ⟨_, ho, rfl⟩ PySem.F.entry_list_index (PySem.F.args_list_index_2 _ _)
    (SeqAt.list_indexAt p its.toArray n dd sl (.int k t) (PyProof.Rows.isInt k) (ns.idxOf k) (by simpa using h9) (by omega) ?_ ?_) ⟨ho, fun y hy => (eq_isInt k t hi y (by simpa using hy)).at _ _, ?_⟩
  · have := isInt_at k hi (ns.idxOf k) h9 hj
    simp only [List.getElem_toArray] at this ⊢
    rw [this]
    simpa using List.getElem_idxOf hj
  · intro j hjs hlt
    have := isInt_at k hi j (by simpa using hjs) (by omega)
    simp only [List.getElem_toArray] at this ⊢
    rw [this]
    exact ne_of_lt_idxOf hlt _
  · exact ⟨.int (ns.idxOf k : Nat), H, I.tok _, ⟨s.toks, rfl⟩, q⟩
def gIndex : COp
  | [.lst l, .int i], k => match dints l with
    | some ns => i ∈ ns ∧ k (.dat (.int (ns.idxOf i : Nat)))
    | none => False
  | _, _ => False
theorem ok_index (hK : X.K = c.K := by rfl) : MrOk X c "list.index" gIndex := ⟨⟨_, mt_lindex, fun F H L x vs ds Qd Q G rd q k => by
  unfold gIndex at q
  split at q
  · rename_i l i
    split at q
    · rename_i ns h1
      obtain ⟨x', r', e', ⟨a, xs, rfl, hx, rl⟩, rest⟩ := rd
      obtain ⟨rfl, rfl⟩ : V.ref a = x ∧ r' = vs := by
        injection e' with e1 e2
        exact ⟨e1.symm, e2.symm⟩
      obtain ⟨y, e2, z⟩ := rdl1 rest
      subst e2
      rw [dints_some h1] at rl
      rw [repL_ints' rl] at hx
      exact ⟨a, ns, i, rfl, by rw [show y = .int i from z], SqL.of hx, q.1, k _ _ _ _ q.2 (G.also (r := .dat (.int (ns.idxOf i : Nat))) rfl rfl)⟩
    · exact q.elim
  · exact q.elim⟩⟩
/-! ### l[:0:-1] -/
theorem rev0_bounds (n : Nat) (h : 1 ≤ n) : PySem.sliceBounds none (some 0) (some (-1)) n = ((n : Int) - 1, 0, -1) := by
  unfold PySem.sliceBounds
  simp
  omega
theorem rev0_range (n : Nat) : PySem.sliceRange ((n : Int) - 1) 0 (-1) = (List.range (n - 1)).map fun k => n - 1 - k := by
  unfold PySem.sliceRange
  have h1 : ¬ ((-1 : Int) > 0) := by decide
  by_cases h : (n : Int) - 1 > 0
  · have e : ((n : Int) - 1 - 0 - -1 - 1) / (- -1) = ((n - 1 : Nat) : Int) := by
      rw [show (- -1 : Int) = 1 by decide, Int.ediv_one]
      omega
    simp only [h1, if_false, h, if_true, e, Int.toNat_natCast]
    apply List.map_congr_left
    intro k hk
    have := List.mem_range.mp hk
    omega
  · have e : n - 1 = 0 := by omega
    simp only [h1, if_false, h, e]
    simp
theorem pick_rev0 (xs : Array Value) (h : 1 ≤ xs.size) : PySem.slicePick xs none (some 0) (some (-1)) = (xs.toList.drop 1).reverse.toArray := by
  unfold PySem.slicePick
  rw [rev0_bounds _ h]
  show ((PySem.sliceRange ((xs.size : Int) - 1) 0 (-1)).filterMap (xs[·]?)).toArray = _
  rw [rev0_range, List.filterMap_map]
  congr 1
  have e : (List.range (xs.size - 1)).map (fun k => xs.size - 1 - k) = ((List.range (xs.size - 1)).map (· + 1)).reverse := by
    apply List.ext_getElem
    · simp
    · intro i h1 h2
      simp only [List.length_map, List.length_range] at h1
      simp only [List.getElem_map, List.getElem_range, List.getElem_reverse, List.length_map, List.length_range]
      omega
  rw [← List.filterMap_map, e, List.filterMap_reverse]
  congr 1
  have g := PySem.W.krv_all xs
  have e2 : List.range xs.size = 0 :: (List.range (xs.size - 1)).map (· + 1) := by
    conv => lhs; rw [show xs.size = (xs.size - 1) + 1 by omega, List.range_succ_eq_map]
  rw [e2, List.filterMap_cons, Array.getElem?_eq_getElem (by omega)] at g
  simp only at g
  rw [← g]
  rfl
def wRev0 (wa : W) : W := fun Γ Q => wa Γ fun r Γ1 => peek Γ1 r fun d => match d with
  | .lst l => l ≠ [] ∧ ∀ a, Q (.lst false a (l.drop 1).reverse) Γ1
  | _ => False
def tRev0 (K : PySem.W.Frag) (te : TE) : TE := fun σ H Q => te σ H fun x H1 => ∃ a xs, x = .ref a ∧ xs ≠ [] ∧ SqL K H1 a xs ∧ ∀ p, H1 p = none → Q (.ref p) (upd H1 p (.lst (xs.drop 1).reverse))
theorem pe_rev0 {e : Expr} {te : TE} {k k0 : Nat} {p0 p1 p2 p3 pos : Pos} (he : PE X e te) : PE X (.Subscript e (.Slice none (some (.Constant (.int 0) k0 p0)) (some (.UnaryOp .USub (.Constant (.int 1) k p1) p2)) p3) pos) (tRev0 X.K te) := by
  refine ⟨fun pins s σ H Q I h => ?_⟩
  refine Subscript_ (thn (he.run pins s σ H _ I h) fun v s1 ⟨x, H1, I1, r1, q1⟩ => ?_)
  obtain ⟨a, xs, ex, ne, hx, q⟩ := q1
  subst ex
  cases r1
  have hst : PO X (some (.UnaryOp .USub (.Constant (.int 1) k p1) p2)) (tPart (tUn (rU fun i => .int (-i)) (tC (.int 1)))) := po_some (pe_un un_neg pe_int)
  have hup : PO X (some (.Constant (.int 0) k0 p0)) (tPart (tC (.int 0))) := po_some pe_int
  refine wpAny_Slice (thn (po_none.run pins s1 σ H1 (fun o H2 => o = none ∧ H2 = H1) I1 ⟨rfl, rfl⟩) fun vl s2 ⟨l, H2, I2, pl, el, e2⟩ => ?_)
  subst el e2
  refine thn (hup.run pins s2 σ H2 (fun o H3 => o = some 0 ∧ H3 = H2) I2 ⟨0, rfl, rfl, rfl⟩) fun vu s3 ⟨u, H3, I3, pu, eu, e3⟩ => ?_
  subst eu e3
  refine thn (hst.run pins s3 σ H3 (fun o H4 => o = some (-1) ∧ H4 = H3) I3 ⟨1, rfl, -1, rfl, rfl, rfl⟩) fun vs s4 ⟨o, H4, I4, ps, eo, e4⟩ => ?_
  subst eo e4
  have I5 : Inv X pins σ H4 { s4 with heap := s4.heap.push { cls := .type "slice", data := .fields #[vl, vu, vs] } } := I4.kept (t' := s4.toks) fun b ob q => Heap.get?_push_of_some _ q
  show wpAny (model X.prog X.w) X.A (subscriptTail e (.Slice none (some (.Constant (.int 0) k0 p0)) (some (.UnaryOp .USub (.Constant (.int 1) k p1) p2)) p3) (.ref a) (.ref s4.heap.objs.size)) (EP X pins σ Q) X.xe { s4 with heap := s4.heap.push { cls := .type "slice", data := .fields #[vl, vu, vs] } }
  obtain ⟨its, r, ht, hz⟩ := I5.list hx
  have hlen := r.length
  have hp : 1 ≤ its.toArray.size := by
    rw [List.size_toArray]
    have := List.length_pos_iff.mpr ne
    omega
  refine tail_any (ops := [.ref a, .ref s4.heap.objs.size]) ht.isList.typeIs (PySem.slot_list_getitem.lookup) ?_ (by with_unfolding_all rfl)
  refine wpAny_getItem_list_slice ht.isList (Heap.IsSliceOf.new _ vl vu vs) pl pu ps (by decide) ?_ (by rw [List.size_toArray]; omega)
  rw [pick_rev0 _ hp]
  refine ⟨.ref _, _, I5.laid (t' := s4.toks) (o := .lst (xs.drop 1).reverse) (fun b ob q => Heap.get?_push_of_some _ q) (Nat.le_refl _) ?_, rfl, q _ (I5.hok.fresh (Nat.le_refl _))⟩
  exact ⟨by rw [List.length_reverse, List.length_drop]; omega, _, 0, (r.drop 1).reverse, Heap.get?_push_size _ rfl⟩
theorem pd_rev0 {e : Expr} {k k0 : Nat} {p0 p1 p2 p3 pos : Pos} (ha : PE X e (lift c wa)) (hK : X.K = c.K := by rfl) : PE X (.Subscript e (.Slice none (some (.Constant (.int 0) k0 p0)) (some (.UnaryOp .USub (.Constant (.int 1) k p1) p2)) p3) pos) (lift c (wRev0 wa)) := by
  refine (pe_rev0 ha).imp fun σ H Q ⟨Γ, T, Qd, hR, hw, k⟩ => ?_
  refine ⟨Γ, T, _, hR, hw, fun r1 Γ1 x H1 q1 R1 => ?_⟩
  obtain ⟨F, E, he, G⟩ := R1
  obtain ⟨d, q, rd⟩ := G.peek (r := r1) (v := x) he (fun z hz => List.mem_append_left _ hz) (by simp) q1
  have fin : ∀ {r : R} {v : V} {F' H' : Hp}, Qd r Γ1 → Good c F' H' ((r, v) :: (E ++ (r1, x) :: T)) → Q v H' := fun {r v F' H'} z G' => k r Γ1 v H' z ⟨F', E, he, (G'.perm (front _ _ _).symm).less ((List.Sublist.refl E).append (.cons₂ _ (.cons _ (List.Sublist.refl _))))⟩
  cases d with
  | lst l =>
    obtain ⟨a, xs, rfl, f, r⟩ := rd
    have hl := r.length
    refine ⟨a, xs, rfl, fun z => q.1 ?_, by rw [hK]; exact SqL.of f, fun p hp => fin (q.2 p) (G.newOwn hp (RepL.reverse (RepL.drop 1 r)))⟩
    rw [z] at hl
    exact List.length_eq_zero_iff.mp hl.symm
  | _ => exact (show False from q).elim
end
end Dl
/-! ## texts: sign by sign, s[i], in, join, count, index -/
namespace Dl
open PySem PySem.Spec PyProof.Rows
open L2
def chS (n : Nat) : Str := ⟨#[n]⟩
def chD (s : Str) : List D := s.cps.toList.map fun n => .str (chS n)
theorem chD_len (s : Str) : (chD s).length = s.cps.size := by simp [chD]
theorem chD_get {s : Str} {i : Nat} {d : D} (h : (chD s)[i]? = some d) : ∃ n, s.cps[i]? = some n ∧ d = .str (chS n) := by
  unfold chD at h
  rw [List.getElem?_map] at h
  cases e : s.cps.toList[i]? with
  | none => rw [e] at h; cases h
  | some n =>
    rw [e] at h
    cases h
    exact ⟨n, by simpa using e, rfl⟩
section
variable {prog : Program} {w : World} {A : Around} {E : Value → Shared → Prop} {s : Shared}
theorem enumS_end {e it : Addr} {i : Nat} {x : Str} {t : Tok} {old : Value} {Q : Option Value → Shared → Prop} (hh : A.handled = none)
    (he : IsEnum s.heap e it i old) (hit : s.heap.IsStrIter it (strIterType x) x t i) (hx : x.cps[i]? = none)
    (hQ : ∀ h', Heap.ExtBut it s.heap h' → Q none { s with heap := h' }) : wpAny (model prog w) A (pyNext (.ref e)) Q E s := by
  have hT : s.TypeIs (.ref e) "enumerate" := ⟨_, he, rfl⟩
  unfold pyNext
  refine wpAny_bind (wpAny_attempt (wpAny_callSpecial?_slot (name := Str.ofString "__next__") hT F.slot_enumerate_next
    (wpAny_call_entry F.slot_enumerate_next hT F.entry_enumerate_next ?_ (F.args_enumerate_next_1 _))))
  show wpAny _ _ (field (.ref e) 2 >>= _) _ _ _
  refine wpAny_bind (wpAny_field he rfl (x := .ref it) rfl ?_)
  unfold strIterType at hit
  cases ha : x.cps.all (· < 128)
  · rw [ha] at hit
    refine wpAny_bind (wpAny_nextOf_wide_end hh hit hx fun h' y he' hx' => ?_)
    obtain ⟨o, ho, hc⟩ := hx'
    refine wpAny_bind (wpAny_isInstance (T := "StopIteration") (b := true) ⟨o, ho, hc⟩ isSubtype_stop ?_)
    exact wpAny_pure (hQ _ he')
  · rw [ha] at hit
    refine wpAny_bind (wpAny_nextOf_ascii_end hh hit hx fun h' y he' hx' => ?_)
    obtain ⟨o, ho, hc⟩ := hx'
    refine wpAny_bind (wpAny_isInstance (T := "StopIteration") (b := true) ⟨o, ho, hc⟩ isSubtype_stop ?_)
    exact wpAny_pure (hQ _ he')
end
/-- enumerate over a text -/
def IteS (x : Str) : It :=
  ⟨fun i _ => i < x.cps.size, fun i H v H' => ∃ T n, v = .ref T ∧ H T = none ∧ H' = upd H T (.tup [.int (i : Nat), .str (chS n)]) ∧ x.cps[i]? = some n, fun i _ => x.cps.size ≤ i⟩
theorem turn_enumS {P : Program} {w : World} {K : PySem.W.Frag} {elts : List Expr} {kk : Nat} {tpos : Pos} (x : Str) (t : Tok) (e it : Addr) :
    Turn P w K (.Tuple elts kk tpos) (IteS x) [e, it] e (fun i h => (∃ old, IsEnum h e it ((i : Nat) : Int) old) ∧ h.IsStrIter it (strIterType x) x t i ∧ e ≠ it) where
  mem := by simp
  obj := fun i h st b hb => by
    obtain ⟨⟨old, he⟩, ⟨o, ho, hc, hd⟩, _⟩ := st
    have e' : b = e ∨ b = it := by simpa using hb
    rcases e' with z | z
    · rw [z]; exact ⟨_, he, fun v q => nomatch q⟩
    · rw [z]; exact ⟨o, ho, fun v q => by rw [hd] at q; cases q⟩
  keep := fun i h h' st k => let ⟨⟨old, he⟩, ⟨o, ho, r⟩, hne⟩ := st; ⟨⟨old, k e (by simp) _ he⟩, ⟨o, k it (by simp) o ho, r⟩, hne⟩
  item := by
    intro X hP hw hK hc i pins s σ H E I hf st hg
    subst hP hw hK
    obtain ⟨⟨old, he⟩, hit, hne⟩ := st
    have hel : e < s.heap.objs.size := Heap.lt_size he
    have hil : it < s.heap.objs.size := by obtain ⟨_, q, _⟩ := hit; exact Heap.lt_size q
    refine wpAny_pyNext_enum_itemD (Draws.text (A := X.A.in1) (I.ok.hd hc) it x t) he hit hg hne (by simp [hne]) fun x' h' tk hx' ho hst hT hsz hk => ?_
    obtain ⟨n, u, hn, rfl⟩ := hx'
    refine ⟨_, rfl, wpAny_letOwnedTupleGo_enum (s := { s with heap := h', toks := tk + 1 }) ho fun h'' he' sb => ?_⟩
    have hT2 : h''.get? s.heap.objs.size = some { cls := .type "tuple", data := .seq #[.int i tk, .str ⟨#[n]⟩ u] } := (sb.2 _ (Nat.ne_of_gt hel)).trans hT
    have new : ObjOk X.prog X.w (upd H s.heap.objs.size (.tup [.int (i : Nat), .str (chS n)])) h'' s.heap.objs.size (.tup [.int (i : Nat), .str (chS n)]) :=
      ⟨by show 2 ≤ sizeLine; decide, [.int i tk, .str ⟨#[n]⟩ u], .cons ⟨_, rfl⟩ (.cons ⟨u, rfl⟩ .nil), ⟨_, hT2, rfl, _, rfl⟩⟩
    have I1 : Inv X pins σ (upd H s.heap.objs.size (.tup [.int (i : Nat), .str (chS n)])) { s with heap := h'', toks := tk + 1 } :=
      I.turnedNew (ch := [e, it]) (fun b ob hb q => (sb.2 b (fun z => hb (by simp [z]))).trans (hk b ob (fun z => hb (by simp [z])) (fun z => hb (by simp [z])) q)) hf (Nat.le_refl _) new
    refine ⟨.ref s.heap.objs.size, _, I1, rfl, ⟨_, n, rfl, I.hok.fresh (Nat.le_refl _), rfl, hn⟩, ⟨⟨.str ⟨#[n]⟩ u, ?_⟩, ?_, hne⟩, fun b hb => ?_⟩
    · have e1 : ((i + 1 : Nat) : Int) = (i : Int) + 1 := by omega
      rw [e1]; exact he'
    · obtain ⟨o, ho2, r⟩ := hst
      exact ⟨o, (sb.2 it (Ne.symm hne)).trans ho2, r⟩
    · have hb' : b < s.heap.objs.size := by
        have e' : b = e ∨ b = it := by simpa using hb
        rcases e' with z | z
        · rw [z]; exact hel
        · rw [z]; exact hil
      rw [upd_ne (Nat.ne_of_lt hb')]
      exact (hf b hb).1
  done := by
    intro X hP hw hK hc i pins s σ H E I hf st hg
    subst hP hw hK
    obtain ⟨⟨old, he⟩, hit, hne⟩ := st
    obtain ⟨f0, f1, f2, f3, f4, f5⟩ := hf it (by simp)
    have hx : x.cps[i]? = none := Array.getElem?_eq_none hg
    exact enumS_end (I.ok.hd hc) he hit hx fun h' eb => ⟨rfl, I.turned (t' := s.toks) (fun b o hb q => eb b o hb q) f0 f1 f3 f4 f5⟩
  self := fun A i s Q E st h => let ⟨⟨_, he⟩, _⟩ := st; wpAny_pyIter_enum he h
section
variable {X : Cx} {c : Cn} {K : PySem.W.Frag} {F H : Hp} {wa wb : W} {σ : L2.St} {Γ : Gm} {T : Ls} {a b e tg : Expr} {pos : Pos}
/-! ### for x in s, for i, x in enumerate(s) -/
def wiStr (wa : W) : WI := fun Γ Q => wa Γ fun r Γ1 => match r with
  | .dat (.str s) => Q (chD s) (fun _ => True) Γ1
  | _ => False
theorem itd_str {s : Str} : ItD c (Its s) (chD s) (fun _ => True) [(.dat (.str s), .str s)] := fun i σ H Γ T R _ => by
  refine ⟨fun hi => by rw [chD_len] at hi; exact hi, fun d hd => ?_⟩
  obtain ⟨n, hn, rfl⟩ := chD_get hd
  have hlt : i < s.cps.size := (Array.getElem?_eq_some_iff.mp hn).1
  refine ⟨hlt, fun v H' ⟨eH, m, hm, ev⟩ => ?_⟩
  subst eH
  subst ev
  rw [hn] at hm
  cases hm
  exact R.dat fun _ _ _ => rfl
theorem pid_str (ha : PE X a (lift c wa)) (hK : X.K = c.K := by rfl) : PI X tg a (liftI c (wiStr wa)) := by
  refine (pi_str ha).imp fun σ H Q ⟨Γ, T, Qd, hR, hw, k⟩ => ⟨Γ, T, _, hR, hw, fun r Γ1 v H1 q1 R1 => ?_⟩
  split at q1
  · rename_i s
    have q := R1
    obtain ⟨F, E, he, G⟩ := q
    have ev : v = .str s := G.rep (.dat (.str s), v) (by simp)
    subst ev
    exact ⟨s, rfl, k _ _ _ _ _ [(.dat (.str s), .str s)] q1 R1 itd_str⟩
  · exact q1.elim
def iEnumS (ta : TA) : TI := fun σ H R => ta σ H fun vs H1 => ∃ s, vs = [.str s] ∧ R (IteS s) H1
theorem pi_enumS {e : Expr} {ta : TA} {p pos tpos : Pos} {elts : List Expr} {kk : Nat} (hg : Gl X "enumerate") (hm : X.mg "enumerate" = none) (ha : PA X [e] ta) (hs : starEach [e] X.env = [(false, eval e X.env)] := by rfl) :
    PI X (.Tuple elts kk tpos) (.Call (.Name "enumerate" p) [e] [] pos) (iEnumS ta) := by
  refine ⟨fun pins s σ H R I h => ?_⟩
  refine Call_ (ld_blt I hg hm boot_enumerate (PyProof.Rows.callWith_type1 (thn (ha.run pos pins s σ H _ I h) fun us s1 ⟨vs, H1, I1, r1, q1⟩ => ?_) hs rfl))
  obtain ⟨x, ex, q1⟩ := q1
  subst ex
  obtain ⟨u, rfl, ru⟩ := r1.one
  obtain ⟨t, rfl⟩ := ru
  have fresh2 : ∀ b ∈ [s1.heap.objs.size + 1, s1.heap.objs.size], FpOk X pins H1 b := fun b hb => by
    have e' : b = s1.heap.objs.size + 1 ∨ b = s1.heap.objs.size := by simpa using hb
    have hle : s1.heap.objs.size ≤ b := by
      rcases e' with z | z
      · rw [z]; exact Nat.le_add_right _ _
      · rw [z]; exact Nat.le_refl _
    exact I1.fpOk hle (I1.hok.fresh hle)
  refine call_enum1 (begins_text x t) True.intro fun h' he hit hsz hk => wpAny_pyIter_enum he ?_
  have I2 : Inv X pins σ H1 { s1 with heap := h' } := I1.kept (t' := s1.toks) hk
  exact ⟨s1.heap.objs.size + 1, [s1.heap.objs.size + 1, s1.heap.objs.size], _, _, H1, rfl, I2, turn_enumS x t (s1.heap.objs.size + 1) s1.heap.objs.size, ⟨⟨.none, he⟩, ⟨_, hit, rfl, rfl⟩, Nat.succ_ne_self _⟩, fresh2, q1⟩
def wiEnumS (t : WA) : WI := fun Γ Q => t Γ fun rs Γ1 => takes rs Γ1 fun ds Γ2 => match ds with
  | [.str s] => Q (enumD (chD s)) (fun _ => True) Γ2
  | _ => False
theorem itd_enumS {s : Str} : ItD c (IteS s) (enumD (chD s)) (fun _ => True) [(.dat (.str s), .str s)] := fun i σ H Γ T R _ => by
  obtain ⟨F, E, he, G⟩ := R
  refine ⟨fun hi => by rw [enumD_len, chD_len] at hi; exact hi, fun d hd => ?_⟩
  obtain ⟨d1, h1, rfl⟩ := enumD_get hd
  obtain ⟨n, hn, rfl⟩ := chD_get h1
  have hlt : i < s.cps.size := (Array.getElem?_eq_some_iff.mp hn).1
  refine ⟨hlt, fun v H' ⟨t, m, ev, hp, eH, hm⟩ => ?_⟩
  rw [hn] at hm
  cases hm
  subst ev
  subst eH
  exact epair_end he G hp rfl
theorem pid_enumS {e : Expr} {t : WA} {p tpos : Pos} {elts : List Expr} {kk : Nat} (hm : X.mg "enumerate" = none) (ha : PA X [e] (liftA c t)) (hg : Gl X "enumerate" := by rfl) (hK : X.K = c.K := by rfl)
    (hs : starEach [e] X.env = [(false, eval e X.env)] := by rfl) : PI X (.Tuple elts kk tpos) (.Call (.Name "enumerate" p) [e] [] pos) (liftI c (wiEnumS t)) := by
  refine (pi_enumS hg hm ha hs).imp fun σ H Q ⟨Γ, T, Qd, hR, hw, k⟩ => ⟨Γ, T, _, hR, hw, fun rs Γ1 vs H1 q1 hl R1 => ?_⟩
  obtain ⟨ds, Γ2, q2, R2, el⟩ := R1.takes hl q1
  split at q2
  · rename_i s
    obtain ⟨v, rfl⟩ : ∃ v, vs = [v] := by
      match vs, el with
      | [v], _ => exact ⟨v, rfl⟩
    have R3 := R2
    obtain ⟨F, E, he, G⟩ := R3
    have ev : v = .str s := G.rep (.dat (.str s), v) (by simp)
    subst ev
    exact ⟨s, rfl, k _ _ _ _ _ [(.dat (.str s), .str s)] q2 R2 itd_enumS⟩
  · exact q2.elim
/-! ### s[i], x in s -/
def gAtS : BOp
  | .str s, .int i, k => 0 ≤ i ∧ i < s.cps.size ∧ i < 9223372036854775807 ∧ match s.cps[i.toNat]? with
    | some n => k (.dat (.str (chS n)))
    | none => False
  | _, _, _ => False
theorem pd_atS (ha : PE X a (lift c wa)) (hb : PE X b (lift c wb)) (hs : PlainIxT b := by exact fun _ _ => rfl) : PE X (.Subscript a b pos) (lift c (wBin gAtS wa wb)) := by
  refine (pe_item_str ha hb hs).imp fun σ H Q ⟨Γ, T, Qd, hR, hw, k⟩ => ?_
  refine ⟨Γ, T, _, hR, hw, fun r1 Γ1 x H1 q1 R1 => ⟨Γ1, _, _, R1, q1, fun r2 Γ2 y H2 q2 R2 => ?_⟩⟩
  refine bin_end (rr := fun x y H Q => ∃ z i c, x = .str z ∧ y = .int i ∧ 0 ≤ i ∧ i < 2 ^ 63 ∧ i < z.length ∧ z.cps[i.toNat]? = some c ∧ Q (.str ⟨#[c]⟩) H) (g := gAtS) (fun F H L x y d e Qd Q G rd re q k => ?_) R2 q2 fun r v H' hq R' => k _ _ _ _ hq (R'.less ((List.Sublist.cons _ (List.Sublist.cons _ (List.Sublist.refl _))).cons₂ _))
  unfold gAtS at q
  split at q
  · rename_i s i
    obtain ⟨h0, h1, h2, q⟩ := q
    split at q
    · rename_i n hn
      exact ⟨s, i, n, rd, re, h0, Int.lt_trans h2 (by decide), h1, hn, k _ _ _ _ q (G.also (r := .dat (.str (chS n))) rfl rfl)⟩
    · exact q.elim
  · exact q.elim
def gInS : BOp
  | .str x, .str s, k => (match x.cps.toList with
    | [n] => k (.dat (.bl (decide (n ∈ s.cps.toList))))
    | _ => False)
  | _, _, _ => False
theorem ok_inS : OpOk X c (compareOp .In) gInS := ⟨⟨_, op_in_sign, fun F H L x y d e Qd Q G rd re q k => by
  unfold gInS at q
  split at q
  · rename_i x s
    split at q
    · rename_i n hn
      have ex : x = ⟨#[n]⟩ := by
        obtain ⟨cps⟩ := x
        congr 1
        exact Array.toList_inj.mp hn
      subst ex
      exact ⟨n, s, rd, re, k _ _ _ _ q (G.also (r := .dat (.bl (decide (n ∈ s.cps.toList)))) rfl rfl)⟩
    · exact q.elim
  · exact q.elim⟩⟩
/-! ### s.join(l), s.count(x), s.index(x) -/
def strL : List D → Option (List Str)
  | [] => some []
  | .str s :: l => (strL l).map (s :: ·)
  | _ :: _ => none
theorem strs_some : ∀ {l : List D} {ss : List Str}, strL l = some ss → l = ss.map D.str
  | [], ss, h => by cases h; rfl
  | d :: l, ss, h => by
    cases d with
    | str s =>
      cases e : strL l with
      | none => rw [strL, e] at h; cases h
      | some m =>
        rw [strL, e] at h
        cases h
        rw [strs_some e]
        rfl
    | _ => cases h
theorem repL_strs : ∀ {ss : List Str} {xs : List V}, RepL K F (ss.map D.str) xs → xs = ss.map V.str
  | [], xs, q => q
  | s :: ss, xs, q => by
    obtain ⟨x, r, rfl, a, b⟩ := q
    rw [repL_strs b, (show x = V.str s from a)]
    rfl
def gJoin : COp
  | [.str s, .lst l], k => match strL l with
    | some ss => (ss.map (·.length)).sum + ss.length * s.length ≤ 16777216 ∧ k (.dat (.str (Txt.join s ss)))
    | none => False
  | _, _ => False
theorem ok_join (hK : X.K = c.K := by rfl) : MrOk X c "str.join" gJoin := ⟨⟨_, mt_join, fun F H L x vs ds Qd Q G rd q k => by
  unfold gJoin at q
  split at q
  · rename_i s l
    split at q
    · rename_i ss h1
      obtain ⟨x', r', e', rx, rest⟩ := rd
      obtain ⟨rfl, rfl⟩ : x' = x ∧ r' = vs := by
        injection e' with e1 e2
        exact ⟨e1.symm, e2.symm⟩
      obtain ⟨y, e2, z⟩ := rdl1 rest
      subst e2
      obtain ⟨a, xs, rfl, hx, rl⟩ := z
      rw [strs_some h1] at rl
      rw [repL_strs rl] at hx
      exact ⟨s, a, ss, rx, rfl, .inl (SqL.of hx), q.1, k _ _ _ _ q.2 (G.also (r := .dat (.str (Txt.join s ss))) rfl rfl)⟩
    · exact q.elim
  · exact q.elim⟩⟩
def gCountS : COp
  | [.str s, .str x], k => k (.dat (.int (Txt.count s x)))
  | _, _ => False
theorem ok_countS : MrOk X c "str.count" gCountS := ⟨⟨_, mt_count, fun F H L x vs ds Qd Q G rd q k => by
  unfold gCountS at q
  split at q
  · rename_i s y
    obtain ⟨x', r', e', rx, rest⟩ := rd
    obtain ⟨rfl, rfl⟩ : x' = x ∧ r' = vs := by
      injection e' with e1 e2
      exact ⟨e1.symm, e2.symm⟩
    obtain ⟨z, e2, rz⟩ := rdl1 rest
    subst e2
    exact ⟨s, y, rx, by rw [show z = V.str y from rz], k _ _ _ _ q (G.also (r := .dat (.int (Txt.count s y))) rfl rfl)⟩
  · exact q.elim⟩⟩
def gIndexS : COp
  | [.str s, .str x], k => match Builtin.Str.occurrences s x 0 s.length 1 with
    | i :: _ => k (.dat (.int (i : Nat)))
    | [] => False
  | _, _ => False
theorem ok_indexS : MrOk X c "str.index" gIndexS := ⟨⟨_, mt_sindex, fun F H L x vs ds Qd Q G rd q k => by
  unfold gIndexS at q
  split at q
  · rename_i s y
    split at q
    · rename_i i rest2 ho
      obtain ⟨x', r', e', rx, rest⟩ := rd
      obtain ⟨rfl, rfl⟩ : x' = x ∧ r' = vs := by
        injection e' with e1 e2
        exact ⟨e1.symm, e2.symm⟩
      obtain ⟨z, e2, rz⟩ := rdl1 rest
      subst e2
      exact ⟨s, y, i, rest2, rx, by rw [show z = V.str y from rz], ho, k _ _ _ _ q (G.also (r := .dat (.int (i : Nat))) rfl rfl)⟩
    · exact q.elim
  · exact q.elim⟩⟩
end
end Dl
/-! ## l.index(x) for any data; {"a": "b"} -/
namespace Dl
open PySem PySem.Spec PyProof.Rows
open L2
section
variable {X : Cx} {c : Cn} {K : PySem.W.Frag} {F H : Hp} {wa : W}
def rIdxD (K : PySem.W.Frag) : V → List V → Hp → VK → Prop := fun x xs H Q => ∃ (y : V) (d : PyData) (ds : List PyData) (j : Nat), xs = [y] ∧ Dp K H x (.list ds) ∧ Dp K H y d ∧ SeqAt.shaped d = true ∧ SeqAt.shaped (.list ds) = true ∧ j < ds.length ∧ ds.length ≤ 1000000 ∧
  (∀ z, ds[j]? = some z → PyData.eqv z d = true) ∧ (∀ m, m < j → ∀ z, ds[m]? = some z → PyData.eqv z d = false) ∧ Q (.int (j : Nat)) H
theorem mt_lindexD (hu : X.A.units + 65 < cLine) : MtR X "list.index" (rIdxD X.K) := by
  intro pins s σ H x xs v us Q I rx rxs h
  obtain ⟨y, d, ds, j, rfl, hx, hy, sd, sl, hj, hz, hit, hno, q⟩ := h
  obtain ⟨u, rfl, ru⟩ := rxs.one
  obtain ⟨as, r1⟩ := Dp.reads I (.list ds) x v hx rx
  obtain ⟨bs, r2⟩ := Dp.reads I d y u hy ru
  have cl := SeqAt.canLay_of_shaped sl
  have cd := SeqAt.canLay_of_shaped sd
  have hcl : PyData.canLayAll0 ds = true := by simpa [PyData.canLay0] using cl
  cases r1 with
  | @list l o vs n _ _ h1 h2 h3 h4 =>
    have em := SeqAt.readsAll_map ds _ _ hcl h4
    have hl : vs.size = ds.length := by
      have := congrArg List.length em
      simpa using this
    obtain ⟨cls, dd, data, sl⟩ := o
    simp only at h2 h3
    subst h2 h3
    have at_ : ∀ (m : Nat) (hm : m < vs.size), ∃ z, ds[m]? = some z ∧ SeqAt.readOf s.heap vs[m] = z := fun m hm => by
      have e : (vs.toList.map (SeqAt.readOf s.heap))[m]? = some (SeqAt.readOf s.heap vs[m]) := by
        rw [List.getElem?_map, List.getElem?_eq_getElem (by simpa using hm)]
        simp
      rw [em] at e
      exact ⟨_, e, rfl⟩
    refine call_meets PySem.F.slot_list_index ⟨_, h1, rfl⟩ PySem.F.entry_list_index (PySem.F.args_list_index_2 _ _)
      (SeqAt.list_indexAt l vs n dd sl u (fun v => PyData.eqv (SeqAt.readOf s.heap v) d) j (by omega) (Int.lt_of_le_of_lt (Int.ofNat_le.mpr (Nat.le_trans (Nat.le_of_lt hj) hz)) (by decide)) ?_ ?_) ⟨h1, SeqAt.items_eqAt h4 r2 hcl cd (room_in_shaped sd hu), ?_⟩
    · obtain ⟨z, e1, e2⟩ := at_ j (by omega)
      show PyData.eqv (SeqAt.readOf s.heap vs[j]) d = true
      rw [e2]
      exact hit z e1
    · intro m hm hlt
      obtain ⟨z, e1, e2⟩ := at_ m hm
      show PyData.eqv (SeqAt.readOf s.heap vs[m]) d = false
      rw [e2]
      exact hno m hlt z e1
    · exact ⟨.int (j : Nat), H, I.tok _, ⟨s.toks, rfl⟩, q⟩
def gIndexD : COp
  | [.lst l, d], k => sh d 60 = true ∧ sh (.lst l) 60 = true ∧ l.length ≤ 1000000 ∧ match l.findIdx? fun x => eqD x d with
    | some j => k (.dat (.int (j : Nat)))
    | none => False
  | _, _ => False
theorem toPs_get : ∀ (l : List D) (m : Nat), (toPs l)[m]? = l[m]?.map toP
  | [], m => by simp [toPs]
  | d :: l, 0 => by simp [toPs]
  | d :: l, m + 1 => by simp [toPs, toPs_get l m]
theorem ok_indexD (hu : X.A.units + 65 < cLine) (hK : X.K = c.K := by rfl) : MrOk X c "list.index" gIndexD := ⟨⟨_, mt_lindexD hu, fun F H L x vs ds Qd Q G rd q k => by
  unfold gIndexD at q
  split at q
  · rename_i l d
    obtain ⟨h1, h2, h3, q⟩ := q
    split at q
    · rename_i j hj
      obtain ⟨x', r', e', rx, rest⟩ := rd
      obtain ⟨rfl, rfl⟩ : x' = x ∧ r' = vs := by
        injection e' with e1 e2
        exact ⟨e1.symm, e2.symm⟩
      obtain ⟨y, e2, ry⟩ := rdl1 rest
      subst e2
      have z1 := dp_read G.sub h1 ry
      have z2 := dp_read G.sub h2 rx
      have z3 := sh_shaped h2
      simp only [toP] at z2 z3
      rw [List.findIdx?_eq_some_iff_getElem] at hj
      obtain ⟨hlt, hit, hno⟩ := hj
      rw [hK]
      refine ⟨y, toP d, toPs l, j, rfl, z2, z1, sh_shaped h1, z3, by rw [toPs_len]; exact hlt, by rw [toPs_len]; exact h3, fun z hz => ?_, fun m hm z hz => ?_, k _ _ _ _ q (G.also (r := .dat (.int (j : Nat))) rfl rfl)⟩
      · rw [toPs_get, List.getElem?_eq_getElem hlt] at hz
        cases hz
        exact hit
      · rw [toPs_get, List.getElem?_eq_getElem (by omega)] at hz
        cases hz
        have := hno m hm
        simpa [eqD] using this
    · exact q.elim
  · exact q.elim⟩⟩
/-! ### x not in s -/
def gNinS : BOp
  | .str x, .str s, k => (match x.cps.toList with
    | [n] => k (.dat (.bl (!decide (n ∈ s.cps.toList))))
    | _ => False)
  | _, _, _ => False
theorem ok_ninS : OpOk X c (compareOp .NotIn) gNinS := ⟨⟨_, op_notIn_sign, fun F H L x y d e Qd Q G rd re q k => by
  unfold gNinS at q
  split at q
  · rename_i x s
    split at q
    · rename_i n hn
      have ex : x = ⟨#[n]⟩ := by
        obtain ⟨cps⟩ := x
        congr 1
        exact Array.toList_inj.mp hn
      subst ex
      exact ⟨n, s, rd, re, k _ _ _ _ q (G.also (r := .dat (.bl (!decide (n ∈ s.cps.toList)))) rfl rfl)⟩
    · exact q.elim
  · exact q.elim⟩⟩
/-! ### {"a": "b"} -/
def wDispS (kvs : List (Str × Str)) : W := fun Γ Q => ∀ a, Q (.dk false none a (kvs.map fun p => (.inr p.1, .str p.2))) Γ
def trsS (kvs : List (Str × Str)) : List (TE × TE) := kvs.map fun p => (tC (.str p.1), tC (.str p.2))
theorem pairs_constS : ∀ (kvs : List (Str × Str)) (σ : L2.St) (H : Hp) (Q : List (V × V) → Hp → Prop), Q (kvs.map fun p => (V.str p.1, V.str p.2)) H → tPairs (trsS kvs) σ H Q
  | [], _, _, _, q => q
  | p :: kvs, σ, H, Q, q => pairs_constS kvs σ H (fun ps H3 => Q ((V.str p.1, V.str p.2) :: ps) H3) q
theorem rep_constS {F : Hp} : ∀ kvs : List (Str × Str), RepL K F ((kvs.map fun p => ((Sum.inr p.1 : Key), D.str p.2)).map (·.2)) ((kvs.map fun p => ((Sum.inr p.1 : Key), V.str p.2)).map (·.2))
  | [] => rfl
  | p :: kvs => ⟨_, _, rfl, rfl, rep_constS kvs⟩
theorem pd_dispS {pos : Pos} {keys : List (Option Expr)} {values : List Expr} {kvs : List (Str × Str)} (h : PPs X pos keys values (trsS kvs)) (hall : keys.all (·.isSome) = true) (hl : keys.length = values.length) (h0 : keys ≠ []) (h15 : keys.length ≤ 15) (hk : kvs.length ≤ 15)
    (hm : mergeK [] (kvs.map fun p => ((Sum.inr p.1 : Key), V.str p.2)) = kvs.map fun p => ((Sum.inr p.1 : Key), V.str p.2)) : PE X (.Dict keys values pos) (lift c (wDispS kvs)) :=
  (pe_disp h hall hl h0 h15).imp fun σ H Q ⟨Γ, T, Qd, ⟨F, E, he, G⟩, hw, k⟩ p hp => by
    refine pairs_constS kvs σ _ _ ⟨upd_same, kvs.map fun p => ((Sum.inr p.1 : Key), V.str p.2), ?_, by rw [List.length_map]; exact hk, ?_⟩
    · rw [List.map_map]
      rfl
    · rw [hm, L2.upd_upd]
      exact k _ _ _ _ (hw p) ⟨F, E, he, (G.newDk (kvs := kvs.map fun p => ((Sum.inr p.1 : Key), D.str p.2)) (ws := kvs.map fun p => ((Sum.inr p.1 : Key), V.str p.2)) hp (by rw [List.map_map, List.map_map]; rfl) (rep_constS kvs)).perm (front _ _ _).symm⟩
end
end Dl
/-! ## len(set(x)): a list of ints, a tuple of tuples of ints -/
namespace Dl
open PySem PySem.Spec PyProof.Rows
open L2
section
variable {P : Program} {w : World} {A : Around} {E : Value → Shared → Prop} {s : Shared}
set_option maxHeartbeats 3200000 in
/-- set(x), x a tuple of tuples of ints -/
theorem call_set_tupT {l : Addr} {items : Array Value} (ks : List (Addr × List Int)) {Q : Value → Shared → Prop} (hh : A.handled = none) (hl : s.heap.IsTuple l items) (hit : items.toList = ks.map fun p => Value.ref p.1)
    (hk : ∀ p ∈ ks, IsT P w s.heap p.2 p.1) (hfew : ks.length < 64) (hu : A.units + 3 < cLine)
    (h : ∀ (h' : Heap) (tk : Nat) L es ep t, SetTR P w h' s.heap.objs.size L es ep t → Got ks ks.length L → (∀ b o, s.heap.get? b = some o → h'.get? b = some o) → Q (.ref s.heap.objs.size) { s with heap := h', toks := tk }) :
    wpAny (model P w) A (call (.type "set") [.ref l]) Q E s := by
  have hisz : items.size = ks.length := by
    have q := congrArg List.length hit
    rw [Array.length_toList, List.length_map] at q
    exact q
  obtain ⟨c, tl, hmro⟩ := F.called_set.mro
  have hmade := F.called_set.made
  have hsub := F.called_set.sub
  refine wpAny_call (codeAny_of_tree ?_)
  show wpAny _ _ (callAny (.type "set") _) _ _ _
  refine wpAny_pure ⟨Code.quiet_builtin _ (by decide +kernel), codeAny_builtin F.entry_type_call ?_⟩
  rw [Around.under_plain (weight_type_call_type "set" [.ref l] []) rfl]
  have h1 := F.called_set.notType
  have h2 := F.called_set.canCreate
  have hct := F.typeCall_set_1 (.ref l)
  repeat (any_goals (first | assumption | wp_step))
  refine codeAny_mono (code_set_led1 (.ref l) (E := E) (Q₁ := fun obj s₁ => obj = .ref s.heap.objs.size ∧ s₁ = { s with heap := s.heap.push { cls := .type "set", dict := none, data := .set #[] 0 (.fresh 0 0 (!w.params.followText "set-order")) } }) ⟨rfl, rfl⟩) fun r s₁ hr => ?_
  cases r with
  | error e => exact hr
  | ok fl =>
    cases fl with
    | ret obj =>
      obtain ⟨rfl, rfl⟩ := hr
      have hS : (s.heap.push { cls := .type "set", dict := none, data := .set #[] 0 (.fresh 0 0 (!w.params.followText "set-order")) }).get? s.heap.objs.size = some { cls := .type "set", dict := none, data := .set #[] 0 (.fresh 0 0 (!w.params.followText "set-order")) } := Heap.get?_push_size _ rfl
      have hT : Shared.TypeIs { s with heap := s.heap.push { cls := .type "set", dict := none, data := .set #[] 0 (.fresh 0 0 (!w.params.followText "set-order")) } } (.ref s.heap.objs.size) "set" := ⟨_, hS, rfl⟩
      have hli := F.called_set.init.lookup
      have hbi := F.called_set.init.bind (.ref s.heap.objs.size)
      repeat (any_goals (first | assumption | wp_step))
      refine codeAny_mono (codeAny_call_builtin (R := wants (fun r s₂ => r = .none ∧ ∃ h' tk L es ep t, s₂ = { s with heap := h', toks := tk } ∧ SetTR P w h' s.heap.objs.size L es ep t ∧ Got ks ks.length L ∧
          (∀ b o, s.heap.get? b = some o → h'.get? b = some o)) E) F.called_set.init.plain F.entry_set_init (check_set_init_1 hT ?_)) fun r₂ s₂ hr₂ => ?_
      · obtain ⟨ol, hol, hcl, nl, hdl⟩ := hl
        obtain ⟨ocls, odict, odata, oslots⟩ := ol
        simp only at hcl hdl
        subst hcl; subst hdl
        have hol' : (s.heap.push { cls := .type "set", dict := none, data := .set #[] 0 (.fresh 0 0 (!w.params.followText "set-order")) }).get? l = some { cls := .type "tuple", dict := odict, data := .seq items nl, slots := oslots } := Heap.get?_push_of_some _ hol
        have hsls := F.sub_tuple_set
        have hslf := F.sub_tuple_frozenset
        have hne : (Value.type "tuple" == Value.type "dict") = false := by decide
        have hl1 : (s.heap.push { cls := .type "set", dict := none, data := .set #[] 0 (.fresh 0 0 (!w.params.followText "set-order")) }).IsTuple l items := ⟨_, hol', rfl, nl, rfl⟩
        unfold Builtin.«set.__init__» noKeywords Builtin.Frozenset.updateFrom
        generalize hPI : pyIter = PI
        wp_walk
        subst hPI
        refine wpAny_pyIter_tuple hl1 ?_
        refine wpAny_bind (wpAny_runValue ?_)
        have hlS : l < s.heap.objs.size := Heap.lt_size hol
        have hh3 : A.in1.in1.in1.handled = none := by simp [hh]
        have hz1 : (s.heap.push { cls := .type "set", dict := none, data := .set #[] 0 (.fresh 0 0 (!w.params.followText "set-order")) }).objs.size = s.heap.objs.size + 1 := Heap.size_push ..
        have hneI : l ≠ (s.heap.push { cls := .type "set", dict := none, data := .set #[] 0 (.fresh 0 0 (!w.params.followText "set-order")) }).objs.size := by
          rw [Heap.size_push]; exact Nat.ne_of_lt (Nat.lt_succ_of_lt hlS)
        have hSf : s.heap.objs.size ∉ [(s.heap.push { cls := .type "set", dict := none, data := .set #[] 0 (.fresh 0 0 (!w.params.followText "set-order")) }).objs.size, l] := by
          rw [Heap.size_push]; simp only [List.mem_cons, List.mem_singleton, List.not_mem_nil, or_false, not_or]
          exact ⟨Nat.ne_of_lt (Nat.lt_succ_self _), Nat.ne_of_gt hlS⟩
        have hval : ∀ (i : Nat) (v : Value), items[i]? = some v → ∃ p, ks[i]? = some p ∧ v = .ref p.1 := fun i v hv => by
          have q : items.toList[i]? = some v := by rw [Array.getElem?_toList]; exact hv
          rw [hit, List.getElem?_map] at q
          cases hq : ks[i]? with
          | none => rw [hq] at q; cases q
          | some p =>
            rw [hq] at q
            exact ⟨p, rfl, (Option.some.inj q).symm⟩
        have none_of : ∀ b, s.heap.objs.size ≤ b → s.heap.get? b = none := fun b hb => by
          cases q : s.heap.get? b with
          | none => rfl
          | some o => exact absurd (Nat.lt_of_lt_of_le (Heap.lt_size q) hb) (Nat.lt_irrefl _)
        refine set_update_tups ((Walks.tuple hh3 _ l hneI items).toS) s.heap.objs.size
          hSf ks hisz hfew hval s.heap hk (none_of _ (Nat.le_refl _)) (fun b hb => none_of b (by
            rw [List.mem_singleton.mp hb, Heap.size_push]
            exact Nat.le_succ _)) hu (items.size - 0) 0 _ (by omega) (Nat.zero_le _)
          ⟨⟨_, Heap.get?_push_size _ rfl, rfl, rfl⟩, (hl1.push _)⟩ (fun b o e => Heap.get?_push_of_some _ (Heap.get?_push_of_some _ e)) ?hS0 ?hR
        case hS0 =>
          have hget : ((s.heap.push { cls := .type "set", dict := none, data := .set #[] 0 (.fresh 0 0 (!w.params.followText "set-order")) }).push { cls := .type "tuple_iterator", data := .fields #[.ref l, .int 0 0] }).get? s.heap.objs.size
              = some { cls := .type "set", dict := none, data := .set #[] 0 (.fresh 0 0 (!w.params.followText "set-order")) } := Heap.get?_push_of_some _ hS
          exact ⟨[], #[], 0, _, setTR_fresh hget, Got.zero ks⟩
        case hR =>
          intro s' L es ep t hm hS' g' hkp
          obtain ⟨h', g2, d', tk', os'⟩ := s'
          have eg : g2 = s.gens := hm.gens
          have ed : d' = s.drawn := hm.drawn
          have eo : os' = s.os := hm.os
          subst eg; subst ed; subst eo
          show wpAny _ _ _ _ _ _
          refine wpAny_pure ?_
          show wpAny _ _ (ret Value.none) _ _ _
          rw [hisz] at g'
          exact wpAny_pure ⟨rfl, h', tk', L, es, ep, t, rfl, hS', g', hkp⟩
      · cases r₂ with
        | error e => exact hr₂
        | ok fl₂ =>
          cases fl₂ with
          | ret r =>
            obtain ⟨rfl, h', tk, L, es, ep, t, rfl, hS', g', hk'⟩ := hr₂
            repeat (any_goals (first | assumption | wp_step))
            exact h _ _ _ _ _ _ hS' g' hk'
          | _ => exact hr₂.elim
    | _ => exact hr.elim
end
/-! ### how many -/
section
variable {α : Type} [DecidableEq α]
theorem sub_len : ∀ (L M : List α), L.Nodup → (∀ x ∈ L, x ∈ M) → L.length ≤ M.length
  | [], _, _, _ => Nat.zero_le _
  | x :: L, M, nd, h => by
    obtain ⟨h1, h2⟩ := List.nodup_cons.mp nd
    have hx := h x (by simp)
    have := sub_len L (M.erase x) h2 fun y hy => (List.mem_erase_of_ne (fun e => h1 (by rw [← e]; exact hy))).mpr (h y (by simp [hy]))
    rw [List.length_erase_of_mem hx] at this
    have := List.length_pos_of_mem hx
    simp only [List.length_cons]
    omega
theorem sub_perm : ∀ (L M : List α), L.Nodup → (∀ x ∈ L, x ∈ M) → M.length ≤ L.length → L.Perm M
  | [], M, _, _, hl => by
    have e : M = [] := List.length_eq_zero_iff.mp (Nat.le_zero.mp hl)
    rw [e]
  | x :: L, M, nd, h, hl => by
    obtain ⟨h1, h2⟩ := List.nodup_cons.mp nd
    have hx := h x (by simp)
    have := sub_perm L (M.erase x) h2 (fun y hy => (List.mem_erase_of_ne (fun e => h1 (by rw [← e]; exact hy))).mpr (h y (by simp [hy]))) (by
      rw [List.length_erase_of_mem hx]
      simp only [List.length_cons] at hl
      omega)
    exact (List.Perm.cons x this).trans (List.perm_cons_erase hx).symm
theorem many_nodup {L M : List α} (h1 : L.Nodup) (h2 : ∀ x ∈ L, x ∈ M) (h3 : ∀ x ∈ M, x ∈ L) : L.length = M.length ↔ M.Nodup := by
  constructor
  · intro e
    exact (sub_perm L M h1 h2 (by omega)).nodup_iff.mp h1
  · intro nd
    exact Nat.le_antisymm (sub_len L M h1 h2) (sub_len M L nd h3)
end
theorem met_ok (ns : List Int) : ∀ i, i ≤ ns.length → (firstMet (fun i => ns.getD i 0) i).Nodup ∧ ∀ x, x ∈ firstMet (fun i => ns.getD i 0) i ↔ x ∈ ns.take i
  | 0, _ => ⟨List.nodup_nil, by intro x; rw [firstMet_zero]; simp⟩
  | i + 1, h => by
    obtain ⟨h1, h2⟩ := met_ok ns i (by omega)
    have hlt : i < ns.length := by omega
    have e : ns.getD i 0 = ns[i] := by rw [List.getD_eq_getElem?_getD, List.getElem?_eq_getElem hlt]; rfl
    have et : ns.take (i + 1) = ns.take i ++ [ns[i]] := by rw [List.take_succ, List.getElem?_eq_getElem hlt]; rfl
    rw [firstMet_succ, e, et]
    unfold step_dedup
    by_cases hm : (firstMet (fun i => ns.getD i 0) i).any (· == ns[i]) = true
    · rw [if_pos hm]
      obtain ⟨y, hy, ey⟩ := List.any_eq_true.mp hm
      have ey : y = ns[i] := beq_iff_eq.mp ey
      refine ⟨h1, fun x => ?_⟩
      rw [List.mem_append, List.mem_singleton, h2 x]
      constructor
      · exact fun z => .inl z
      · rintro (z | z)
        · exact z
        · rw [z, ← ey]
          exact (h2 y).mp hy
    · rw [if_neg hm]
      refine ⟨?_, fun x => ?_⟩
      · rw [List.nodup_append]
        refine ⟨h1, by simp, fun a ha b hb e => hm (List.any_eq_true.mpr ⟨a, ha, ?_⟩)⟩
        rw [List.mem_singleton.mp hb] at e
        exact beq_iff_eq.mpr e
      · rw [List.mem_append, List.mem_append, List.mem_singleton, h2 x]
section
variable {X : Cx} {c : Cn} {wa : W}
def tLenSetA (K : PySem.W.Frag) (ta : TE) : TE := fun σ H Q => ta σ H fun x H1 => ∃ (l : Addr), x = V.ref l ∧
  ((∃ ns : List Int, SqL K H1 l (ns.map V.int) ∧ ns.length < 64 ∧ ∀ n : Nat, (n = ns.length ↔ ns.Nodup) → n ≤ ns.length → Q (.int (n : Nat)) H1) ∨
   (∃ ks : List (Addr × List Int), SqT K H1 l (ks.map fun p => V.ref p.1) ∧ (∀ p ∈ ks, SqT K H1 p.1 (p.2.map V.int)) ∧ ks.length < 64 ∧ ∀ n : Nat, (n = ks.length ↔ (ks.map (·.2)).Nodup) → n ≤ ks.length → Q (.int (n : Nat)) H1))
theorem pe_lenSetA {a : Expr} {ta : TE} {p p2 q pos : Pos} (hc : X.calm = true) (hu : X.A.units + 64 < cLine) (hg : Gl X "len") (hm : X.mg "len" = none) (hg2 : Gl X "set") (hm2 : X.mg "set" = none) (ha : PE X a ta)
    (na : starEach [a] X.env = (false, eval a X.env) :: starEach [] X.env := by rfl) : PE X (.Call (.Name "len" p) [.Call (.Name "set" p2) [a] [] q] [] pos) (tLenSetA X.K ta) := by
  refine ⟨fun pins s σ H Q I h => ?_⟩
  refine Call_ (ld_blt I hg hm PySem.boot_len ?_)
  refine PyProof.Rows.callWith_builtin1 (PyProof.Rows.args_cons ?_ rfl) rfl rfl
  refine Call_ (ld_blt I hg2 hm2 PyProof.Rows.boot_set ?_)
  refine PyProof.Rows.callWith_type1 (PyProof.Rows.args_cons (thn (ha.run pins s σ H _ I h) fun v s1 ⟨x, H1, I1, r1, q1⟩ => PyProof.Rows.args_nil ?_) na) na rfl
  obtain ⟨l, rfl, q1⟩ := q1
  cases r1
  rcases q1 with ⟨ns, hq, h1, q1⟩ | ⟨ks, hq, hk, h1, q1⟩
  · obtain ⟨its, r, pl, hz⟩ := I1.list hq
    have hl : its.toArray.size = ns.length := by rw [List.size_toArray, ← r.length, List.length_map]
    refine call_set_list (I1.ok.hd hc) pl.isList (ns := ns) (by simpa using r.ints) (by unfold scanBound; omega) fun h' tk hS hk => ?_
    have mo := met_ok ns ns.length (Nat.le_refl _)
    rw [List.take_length] at mo
    have mn := many_nodup mo.1 (fun x hx => (mo.2 x).mp hx) (fun x hx => (mo.2 x).mpr hx)
    have ml := firstMet_length_le (fun i => ns.getD i 0) ns.length
    rw [hl] at hS
    refine PyProof.Rows.args_nil ?_
    obtain ⟨o, es, ep, t, ho, hex, hd, _, _, _, hf, hn⟩ := hS
    have I2 : Inv X pins σ H1 { s1 with heap := h', toks := tk } := I1.kept fun b o e => hk b o (Heap.lt_size e) e
    refine call_len_set ho hex hd hf (by rw [hn] <;> omega) ⟨.int (firstMet (fun i => ns.getD i 0) ns.length).length, H1, I2.tok _, ⟨_, by rw [hn]⟩, q1 _ mn ml⟩
  · obtain ⟨its, rv, pl, hz⟩ := I1.tuple hq
    have hz2 := I1.ok
    refine call_set_tupT (P := X.prog) (w := X.w) ks (I1.ok.hd hc) pl (by simpa using refs_of_vals rv) (fun p hp => I1.isT (hk p hp)) h1 (by omega) fun h' tk L es ep t R g k => ?_
    refine PyProof.Rows.args_nil ?_
    have mn := many_nodup (L := L.map (·.2)) (M := ks.map (·.2)) R.nd (fun x hx => by
      obtain ⟨p, hp, rfl⟩ := List.mem_map.mp hx
      exact List.mem_map.mpr ⟨p, List.mem_of_mem_take (g.sub p hp), rfl⟩) (fun x hx => by
      obtain ⟨p, hp, rfl⟩ := List.mem_map.mp hx
      exact g.all p (by rw [List.take_length]; exact hp))
    rw [List.length_map, List.length_map] at mn
    have I2 : Inv X pins σ H1 { s1 with heap := h', toks := tk } := I1.kept k
    have R : SetTR X.prog X.w ({ s1 with heap := h', toks := tk } : Shared).heap s1.heap.objs.size L es ep t := R
    obtain ⟨o, ho, hex, hd⟩ := R.ob
    have rs := R.size
    have rf := R.fits
    have gl := g.len
    refine call_len_set ho hex hd rf (by rw [rs]; omega) ⟨.int L.length, H1, I2.tok _, ⟨_, by rw [rs]⟩, q1 _ mn gl⟩
def tupI (k : List Int) : D := .tup (k.map D.int)
def wLenSet (wa : W) : W := fun Γ Q => wa Γ fun r Γ1 => peek Γ1 r fun d => match d with
  | .lst l => ∃ ns : List Int, l = ns.map D.int ∧ ns.length < 64 ∧ ∀ n : Nat, (n = ns.length ↔ ns.Nodup) → n ≤ ns.length → Q (.dat (.int (n : Nat))) Γ1
  | .tup l => ∃ ks : List (List Int), l = ks.map tupI ∧ ks.length < 64 ∧ ∀ n : Nat, (n = ks.length ↔ ks.Nodup) → n ≤ ks.length → Q (.dat (.int (n : Nat))) Γ1
  | _ => False
theorem rep_tupIs {K : PySem.W.Frag} {F : Hp} : ∀ {ks : List (List Int)} {xs : List V}, RepL K F (ks.map tupI) xs → ∃ ps : List (Addr × List Int), xs = (ps.map fun p => V.ref p.1) ∧ ps.map (·.2) = ks ∧ ∀ p ∈ ps, F p.1 = some (.tup (p.2.map V.int))
  | [], xs, q => by
    cases (show xs = [] from q)
    exact ⟨[], rfl, rfl, fun p hp => by cases hp⟩
  | k :: ks, xs, q => by
    obtain ⟨x, r, rfl, ⟨a, ys, rfl, f, ry⟩, b⟩ := q
    obtain ⟨ps, rfl, e, h⟩ := rep_tupIs b
    rw [repL_ints' ry] at f
    refine ⟨(a, k) :: ps, rfl, by rw [List.map_cons, e], fun p hp => ?_⟩
    rcases List.mem_cons.mp hp with rfl | hp
    · exact f
    · exact h p hp
theorem pd_lenSet {a : Expr} {p p2 q pos : Pos} (hc : X.calm = true) (hu : X.A.units + 64 < cLine) (hg : Gl X "len") (hm : X.mg "len" = none) (hg2 : Gl X "set") (hm2 : X.mg "set" = none) (ha : PE X a (lift c wa)) (hK : X.K = c.K := by rfl)
    (na : starEach [a] X.env = (false, eval a X.env) :: starEach [] X.env := by rfl) : PE X (.Call (.Name "len" p) [.Call (.Name "set" p2) [a] [] q] [] pos) (lift c (wLenSet wa)) := by
  refine (pe_lenSetA hc hu hg hm hg2 hm2 ha na).imp fun σ H Q ⟨Γ, T, Qd, hR, hw, k⟩ => ?_
  refine ⟨Γ, T, _, hR, hw, fun r1 Γ1 x H1 q1 R1 => ?_⟩
  obtain ⟨F, E, he, G⟩ := R1
  obtain ⟨d, q, rd⟩ := G.peek (r := r1) (v := x) he (fun z hz => List.mem_append_left _ hz) (by simp) q1
  have fin : ∀ n : Nat, Qd (.dat (.int (n : Nat))) Γ1 → Q (.int (n : Nat)) H1 := fun n z => k _ Γ1 _ H1 z ⟨F, E, he, ((G.also (r := .dat (.int (n : Nat))) rfl rfl).perm (front _ _ _).symm).less ((List.Sublist.refl E).append (.cons₂ _ (.cons _ (List.Sublist.refl _))))⟩
  cases d with
  | lst l =>
    obtain ⟨a, xs, rfl, f, r⟩ := rd
    obtain ⟨ns, rfl, h1, q⟩ := q
    rw [repL_ints' r] at f
    exact ⟨a, rfl, .inl ⟨ns, by rw [hK]; exact SqL.of f, h1, fun n h2 h3 => fin n (q n h2 h3)⟩⟩
  | tup l =>
    obtain ⟨a, xs, rfl, f, r⟩ := rd
    obtain ⟨ks, rfl, h1, q⟩ := q
    obtain ⟨ps, rfl, e, h2⟩ := rep_tupIs r
    have el : ps.length = ks.length := by rw [← e, List.length_map]
    exact ⟨a, rfl, .inr ⟨ps, by rw [hK]; exact SqT.of (G.sub _ _ f), fun p hp => by rw [hK]; exact SqT.of (G.sub _ _ (h2 p hp)), by omega, fun n h3 h4 => fin n (q n (by rw [← el, ← e]; exact h3) (by omega))⟩⟩
  | _ => exact (show False from q).elim
end
end Dl
/-! ## len(set(x)), x a list of tuples of ints -/
namespace Dl
open PySem PySem.Spec PyProof.Rows
open L2
section
variable {X : Cx} {c : Cn} {wa : W}
def tLenSetT (K : PySem.W.Frag) (ta : TE) : TE := fun σ H Q => ta σ H fun x H1 => ∃ (l : Addr) (ks : List (Addr × List Int)), x = V.ref l ∧ SqL K H1 l (ks.map fun p => V.ref p.1) ∧ (∀ p ∈ ks, SqT K H1 p.1 (p.2.map V.int)) ∧ ks.length < 64 ∧ ∀ n : Nat, (n = ks.length ↔ (ks.map (·.2)).Nodup) → n ≤ ks.length → Q (.int (n : Nat)) H1
theorem pe_lenSetT {a : Expr} {ta : TE} {p p2 q pos : Pos} (hc : X.calm = true) (hu : X.A.units + 64 < cLine) (hg : Gl X "len") (hm : X.mg "len" = none) (hg2 : Gl X "set") (hm2 : X.mg "set" = none) (ha : PE X a ta)
    (na : starEach [a] X.env = (false, eval a X.env) :: starEach [] X.env := by rfl) : PE X (.Call (.Name "len" p) [.Call (.Name "set" p2) [a] [] q] [] pos) (tLenSetT X.K ta) := by
  refine ⟨fun pins s σ H Q I h => ?_⟩
  refine Call_ (ld_blt I hg hm PySem.boot_len ?_)
  refine PyProof.Rows.callWith_builtin1 (PyProof.Rows.args_cons ?_ rfl) rfl rfl
  refine Call_ (ld_blt I hg2 hm2 PyProof.Rows.boot_set ?_)
  refine PyProof.Rows.callWith_type1 (PyProof.Rows.args_cons (thn (ha.run pins s σ H _ I h) fun v s1 ⟨x, H1, I1, r1, q1⟩ => PyProof.Rows.args_nil ?_) na) na rfl
  obtain ⟨l, ks, rfl, hq, hk, h1, q1⟩ := q1
  cases r1
  obtain ⟨its, rv, pl, hz⟩ := I1.list hq
  refine call_set_tups (P := X.prog) (w := X.w) ks (I1.ok.hd hc) pl.isList (by simpa using refs_of_vals rv) (fun p hp => I1.isT (hk p hp)) h1 (by have := I1.ok; omega) fun h' tk L es ep t R g k => ?_
  refine PyProof.Rows.args_nil ?_
  have mn := many_nodup (L := L.map (·.2)) (M := ks.map (·.2)) R.nd (fun x hx => by
    obtain ⟨p, hp, rfl⟩ := List.mem_map.mp hx
    exact List.mem_map.mpr ⟨p, List.mem_of_mem_take (g.sub p hp), rfl⟩) (fun x hx => by
    obtain ⟨p, hp, rfl⟩ := List.mem_map.mp hx
    exact g.all p (by rw [List.take_length]; exact hp))
  rw [List.length_map, List.length_map] at mn
  have I2 : Inv X pins σ H1 { s1 with heap := h', toks := tk } := I1.kept k
  have R : SetTR X.prog X.w ({ s1 with heap := h', toks := tk } : Shared).heap s1.heap.objs.size L es ep t := R
  obtain ⟨o, ho, hex, hd⟩ := R.ob
  have rs := R.size
  have rf := R.fits
  have gl := g.len
  refine call_len_set ho hex hd rf (by rw [rs]; omega) ⟨.int L.length, H1, I2.tok _, ⟨_, by rw [rs]⟩, q1 _ mn gl⟩
def wLenSetT (wa : W) : W := fun Γ Q => wa Γ fun r Γ1 => peek Γ1 r fun d => match d with
  | .lst l => ∃ ks : List (List Int), l = ks.map tupI ∧ ks.length < 64 ∧ ∀ n : Nat, (n = ks.length ↔ ks.Nodup) → n ≤ ks.length → Q (.dat (.int (n : Nat))) Γ1
  | _ => False
theorem pd_lenSetT {a : Expr} {p p2 q pos : Pos} (hc : X.calm = true) (hu : X.A.units + 64 < cLine) (hg : Gl X "len") (hm : X.mg "len" = none) (hg2 : Gl X "set") (hm2 : X.mg "set" = none) (ha : PE X a (lift c wa)) (hK : X.K = c.K := by rfl)
    (na : starEach [a] X.env = (false, eval a X.env) :: starEach [] X.env := by rfl) : PE X (.Call (.Name "len" p) [.Call (.Name "set" p2) [a] [] q] [] pos) (lift c (wLenSetT wa)) := by
  refine (pe_lenSetT hc hu hg hm hg2 hm2 ha na).imp fun σ H Q ⟨Γ, T, Qd, hR, hw, k⟩ => ?_
  refine ⟨Γ, T, _, hR, hw, fun r1 Γ1 x H1 q1 R1 => ?_⟩
  obtain ⟨F, E, he, G⟩ := R1
  obtain ⟨d, q, rd⟩ := G.peek (r := r1) (v := x) he (fun z hz => List.mem_append_left _ hz) (by simp) q1
  have fin : ∀ n : Nat, Qd (.dat (.int (n : Nat))) Γ1 → Q (.int (n : Nat)) H1 := fun n z => k _ Γ1 _ H1 z ⟨F, E, he, ((G.also (r := .dat (.int (n : Nat))) rfl rfl).perm (front _ _ _).symm).less ((List.Sublist.refl E).append (.cons₂ _ (.cons _ (List.Sublist.refl _))))⟩
  cases d with
  | lst l =>
    obtain ⟨a, xs, rfl, f, r⟩ := rd
    obtain ⟨ks, rfl, h1, q⟩ := q
    obtain ⟨ps, rfl, e, h2⟩ := rep_tupIs r
    have el : ps.length = ks.length := by rw [← e, List.length_map]
    exact ⟨a, ps, rfl, by rw [hK]; exact SqL.of f, fun p hp => by rw [hK]; exact SqT.of (G.sub _ _ (h2 p hp)), by omega, fun n h3 h4 => fin n (q n (by rw [← el, ← e]; exact h3) (by omega))⟩
  | _ => exact (show False from q).elim
end
end Dl
namespace Dl
namespace Kd
open PySem PySem.Spec PyProof.Rows
open L2
def topS (i : Nat) : Stmt := PySem.Challenge.pw_dotcrowds_k49_whole_pairs_that_never_cro.main.body.getD i (.Pass ⟨0, 0, 0, 0⟩)
abbrev s__law_hand : Stmt := topS 38
abbrev s_is_integer : Stmt := topS 10
abbrev s_is_within : Stmt := topS 11
abbrev s_is_dot : Stmt := topS 12
abbrev s_is_crowd : Stmt := topS 22
abbrev s_check_crowd : Stmt := topS 23
abbrev s_side_of : Stmt := topS 15
abbrev s_raw_area : Stmt := topS 14
abbrev s_raw_turn : Stmt := topS 16
abbrev s_is_joined_free : Stmt := topS 31
abbrev s_check_paired : Stmt := topS 32
abbrev s_all_orders : Stmt := topS 28
abbrev s_lies_between : Stmt := topS 17
abbrev s_ways_meet : Stmt := topS 18
abbrev s_never_cross : Stmt := topS 33
abbrev s_all_pairs : Stmt := topS 34
abbrev s_pairs_shown : Stmt := topS 35
abbrev s_pairs_many : Stmt := topS 36
abbrev s__law_same : Stmt := topS 42
abbrev s__law_draw : Stmt := topS 39
abbrev s__law_any : Stmt := topS 40
abbrev s__law_drawn : Stmt := topS 43
abbrev s__law_mixed : Stmt := topS 41
abbrev s__law_area : Stmt := topS 44
abbrev s__law_is_lined : Stmt := topS 46
abbrev s__law_free_dots : Stmt := topS 47
abbrev s__law_two : Stmt := topS 48
abbrev s__law_orders : Stmt := topS 50
abbrev s__law_turn : Stmt := topS 45
abbrev s__law_do_cross : Stmt := topS 49
abbrev s__law_are_pairs : Stmt := topS 51
abbrev s_mirrored : Stmt := topS 26
abbrev s_check_dots : Stmt := topS 13
abbrev s_near_enough : Stmt := topS 24
abbrev s_moved : Stmt := topS 25
abbrev s__law_is_right : Stmt := topS 52
abbrev s_law : Stmt := topS 53
theorem sc__law_hand : FnScope ["script", "cells", "cell"] ["script"] (defScope s__law_hand) := ⟨rfl, rfl, rfl, by decide +kernel, rfl, by decide +kernel, by decide +kernel⟩
theorem sc_is_integer : FnScope ["thing"] ["thing"] (defScope s_is_integer) := ⟨rfl, rfl, rfl, by decide +kernel, rfl, by decide +kernel, by decide +kernel⟩
theorem sc_is_within : FnScope ["thing", "low", "high"] ["thing", "low", "high"] (defScope s_is_within) := ⟨rfl, rfl, rfl, by decide +kernel, rfl, by decide +kernel, by decide +kernel⟩
theorem sc_is_dot : FnScope ["thing", "one"] ["thing"] (defScope s_is_dot) := ⟨rfl, rfl, rfl, by decide +kernel, rfl, by decide +kernel, by decide +kernel⟩
theorem sc_is_crowd : FnScope ["thing", "one"] ["thing"] (defScope s_is_crowd) := ⟨rfl, rfl, rfl, by decide +kernel, rfl, by decide +kernel, by decide +kernel⟩
theorem sc_check_crowd : FnScope ["thing"] ["thing"] (defScope s_check_crowd) := ⟨rfl, rfl, rfl, by decide +kernel, rfl, by decide +kernel, by decide +kernel⟩
theorem sc_side_of : FnScope ["number"] ["number"] (defScope s_side_of) := ⟨rfl, rfl, rfl, by decide +kernel, rfl, by decide +kernel, by decide +kernel⟩
theorem sc_raw_area : FnScope ["a", "b", "c"] ["a", "b", "c"] (defScope s_raw_area) := ⟨rfl, rfl, rfl, by decide +kernel, rfl, by decide +kernel, by decide +kernel⟩
theorem sc_raw_turn : FnScope ["a", "b", "c"] ["a", "b", "c"] (defScope s_raw_turn) := ⟨rfl, rfl, rfl, by decide +kernel, rfl, by decide +kernel, by decide +kernel⟩
theorem sc_is_joined_free : FnScope ["dots", "i", "one", "j", "other", "dot", "third"] ["dots"] (defScope s_is_joined_free) := ⟨rfl, rfl, rfl, by decide +kernel, rfl, by decide +kernel, by decide +kernel⟩
theorem sc_check_paired : FnScope ["red", "blue"] ["red", "blue"] (defScope s_check_paired) := ⟨rfl, rfl, rfl, by decide +kernel, rfl, by decide +kernel, by decide +kernel⟩
theorem sc_all_orders : FnScope ["many", "found", "turn", "longer", "order", "one"] ["many"] (defScope s_all_orders) := ⟨rfl, rfl, rfl, by decide +kernel, rfl, by decide +kernel, by decide +kernel⟩
theorem sc_lies_between : FnScope ["a", "b", "c"] ["a", "b", "c"] (defScope s_lies_between) := ⟨rfl, rfl, rfl, by decide +kernel, rfl, by decide +kernel, by decide +kernel⟩
theorem sc_ways_meet : FnScope ["a", "b", "c", "d"] ["a", "b", "c", "d"] (defScope s_ways_meet) := ⟨rfl, rfl, rfl, by decide +kernel, rfl, by decide +kernel, by decide +kernel⟩
theorem sc_never_cross : FnScope ["red", "blue", "names", "i", "one", "j", "other"] ["red", "blue", "names"] (defScope s_never_cross) := ⟨rfl, rfl, rfl, by decide +kernel, rfl, by decide +kernel, by decide +kernel⟩
theorem sc_all_pairs : FnScope ["red", "blue", "names"] ["red", "blue"] (defScope s_all_pairs) := ⟨rfl, rfl, rfl, by decide +kernel, rfl, by decide +kernel, by decide +kernel⟩
theorem sc_pairs_shown : FnScope ["red", "blue"] ["red", "blue"] (defScope s_pairs_shown) := ⟨rfl, rfl, rfl, by decide +kernel, rfl, by decide +kernel, by decide +kernel⟩
theorem sc_pairs_many : FnScope ["red", "blue"] ["red", "blue"] (defScope s_pairs_many) := ⟨rfl, rfl, rfl, by decide +kernel, rfl, by decide +kernel, by decide +kernel⟩
theorem sc__law_same : FnScope ["one", "due", "a", "b"] ["one", "due"] (defScope s__law_same) := ⟨rfl, rfl, rfl, by decide +kernel, rfl, by decide +kernel, by decide +kernel⟩
theorem sc__law_draw : FnScope ["hand", "many", "cell", "digit", "number"] ["hand", "many"] (defScope s__law_draw) := ⟨rfl, rfl, rfl, by decide +kernel, rfl, by decide +kernel, by decide +kernel⟩
theorem sc__law_any : FnScope ["hand", "some"] ["hand", "some"] (defScope s__law_any) := ⟨rfl, rfl, rfl, by decide +kernel, rfl, by decide +kernel, by decide +kernel⟩
theorem sc__law_drawn : FnScope ["hand", "wide"] ["hand", "wide"] (defScope s__law_drawn) := ⟨rfl, rfl, rfl, by decide +kernel, rfl, by decide +kernel, by decide +kernel⟩
theorem sc__law_mixed : FnScope ["hand", "things", "pool", "found"] ["hand", "things"] (defScope s__law_mixed) := ⟨rfl, rfl, rfl, by decide +kernel, rfl, by decide +kernel, by decide +kernel⟩
theorem sc__law_area : FnScope ["a", "b", "c"] ["a", "b", "c"] (defScope s__law_area) := ⟨rfl, rfl, rfl, by decide +kernel, rfl, by decide +kernel, by decide +kernel⟩
theorem sc__law_is_lined : FnScope ["some", "a", "c", "b"] ["some", "a", "c"] (defScope s__law_is_lined) := ⟨rfl, rfl, rfl, by decide +kernel, rfl, by decide +kernel, by decide +kernel⟩
theorem sc__law_free_dots : FnScope ["hand", "many", "wide", "found", "lap", "dot", "at", "x"] ["hand", "many"] (defScope s__law_free_dots) := ⟨rfl, rfl, rfl, by decide +kernel, rfl, by decide +kernel, by decide +kernel⟩
theorem sc__law_two : FnScope ["hand", "sizes", "reds", "blues", "dots_here"] ["hand", "sizes"] (defScope s__law_two) := ⟨rfl, rfl, rfl, by decide +kernel, rfl, by decide +kernel, by decide +kernel⟩
theorem sc__law_orders : FnScope ["many", "found", "lap_here", "longer", "row", "at"] ["many"] (defScope s__law_orders) := ⟨rfl, rfl, rfl, by decide +kernel, rfl, by decide +kernel, by decide +kernel⟩
theorem sc__law_turn : FnScope ["a", "b", "c", "area"] ["a", "b", "c"] (defScope s__law_turn) := ⟨rfl, rfl, rfl, by decide +kernel, rfl, by decide +kernel, by decide +kernel⟩
theorem sc__law_do_cross : FnScope ["a", "b", "c", "d"] ["a", "b", "c", "d"] (defScope s__law_do_cross) := ⟨rfl, rfl, rfl, by decide +kernel, rfl, by decide +kernel, by decide +kernel⟩
theorem sc__law_are_pairs : FnScope ["red", "blue", "row", "one", "other"] ["red", "blue", "row"] (defScope s__law_are_pairs) := ⟨rfl, rfl, rfl, by decide +kernel, rfl, by decide +kernel, by decide +kernel⟩
theorem sc_mirrored : FnScope ["crowd", "x", "y"] ["crowd"] (defScope s_mirrored) := ⟨rfl, rfl, rfl, by decide +kernel, rfl, by decide +kernel, by decide +kernel⟩
theorem sc_check_dots : FnScope ["some", "one"] ["some"] (defScope s_check_dots) := ⟨rfl, rfl, rfl, by decide +kernel, rfl, by decide +kernel, by decide +kernel⟩
theorem sc_near_enough : FnScope ["crowd", "dot", "one"] ["crowd"] (defScope s_near_enough) := ⟨rfl, rfl, rfl, by decide +kernel, rfl, by decide +kernel, by decide +kernel⟩
theorem sc_moved : FnScope ["crowd", "by", "x", "y"] ["crowd", "by"] (defScope s_moved) := ⟨rfl, rfl, rfl, by decide +kernel, rfl, by decide +kernel, by decide +kernel⟩
theorem sc__law_is_right : FnScope ["hand", "red", "blue", "good", "before", "by", "row"] ["hand", "red", "blue"] (defScope s__law_is_right) := ⟨rfl, rfl, rfl, by decide +kernel, rfl, by decide +kernel, by decide +kernel⟩
theorem sc_law : FnScope ["script", "hand", "heard", "lap", "red", "blue"] ["script"] (defScope s_law) := ⟨rfl, rfl, rfl, by decide +kernel, rfl, by decide +kernel, by decide +kernel⟩
/-- what the top has written -/
structure Fx (K : PySem.W.Frag) (mg : Str → Option Value) where
  f__law_hand : Addr
  d__law_hand : FuncData
  F__law_hand : Fun K "_law_hand" "_law_hand" s__law_hand f__law_hand d__law_hand
  g__law_hand : mg "_law_hand" = some (.ref f__law_hand)
  b__law_hand : Binds K d__law_hand ["script"] []
  f_is_integer : Addr
  d_is_integer : FuncData
  F_is_integer : Fun K "is_integer" "is_integer" s_is_integer f_is_integer d_is_integer
  g_is_integer : mg "is_integer" = some (.ref f_is_integer)
  b_is_integer : Binds K d_is_integer ["thing"] []
  f_is_within : Addr
  d_is_within : FuncData
  F_is_within : Fun K "is_within" "is_within" s_is_within f_is_within d_is_within
  g_is_within : mg "is_within" = some (.ref f_is_within)
  b_is_within : Binds K d_is_within ["thing", "low", "high"] []
  f_is_dot : Addr
  d_is_dot : FuncData
  F_is_dot : Fun K "is_dot" "is_dot" s_is_dot f_is_dot d_is_dot
  g_is_dot : mg "is_dot" = some (.ref f_is_dot)
  b_is_dot : Binds K d_is_dot ["thing"] []
  f_is_crowd : Addr
  d_is_crowd : FuncData
  F_is_crowd : Fun K "is_crowd" "is_crowd" s_is_crowd f_is_crowd d_is_crowd
  g_is_crowd : mg "is_crowd" = some (.ref f_is_crowd)
  b_is_crowd : Binds K d_is_crowd ["thing"] []
  f_check_crowd : Addr
  d_check_crowd : FuncData
  F_check_crowd : Fun K "check_crowd" "check_crowd" s_check_crowd f_check_crowd d_check_crowd
  g_check_crowd : mg "check_crowd" = some (.ref f_check_crowd)
  b_check_crowd : Binds K d_check_crowd ["thing"] []
  f_side_of : Addr
  d_side_of : FuncData
  F_side_of : Fun K "side_of" "side_of" s_side_of f_side_of d_side_of
  g_side_of : mg "side_of" = some (.ref f_side_of)
  b_side_of : Binds K d_side_of ["number"] []
  f_raw_area : Addr
  d_raw_area : FuncData
  F_raw_area : Fun K "raw_area" "raw_area" s_raw_area f_raw_area d_raw_area
  g_raw_area : mg "raw_area" = some (.ref f_raw_area)
  b_raw_area : Binds K d_raw_area ["a", "b", "c"] []
  f_raw_turn : Addr
  d_raw_turn : FuncData
  F_raw_turn : Fun K "raw_turn" "raw_turn" s_raw_turn f_raw_turn d_raw_turn
  g_raw_turn : mg "raw_turn" = some (.ref f_raw_turn)
  b_raw_turn : Binds K d_raw_turn ["a", "b", "c"] []
  f_is_joined_free : Addr
  d_is_joined_free : FuncData
  F_is_joined_free : Fun K "is_joined_free" "is_joined_free" s_is_joined_free f_is_joined_free d_is_joined_free
  g_is_joined_free : mg "is_joined_free" = some (.ref f_is_joined_free)
  b_is_joined_free : Binds K d_is_joined_free ["dots"] []
  f_check_paired : Addr
  d_check_paired : FuncData
  F_check_paired : Fun K "check_paired" "check_paired" s_check_paired f_check_paired d_check_paired
  g_check_paired : mg "check_paired" = some (.ref f_check_paired)
  b_check_paired : Binds K d_check_paired ["red", "blue"] []
  f_all_orders : Addr
  d_all_orders : FuncData
  F_all_orders : Fun K "all_orders" "all_orders" s_all_orders f_all_orders d_all_orders
  g_all_orders : mg "all_orders" = some (.ref f_all_orders)
  b_all_orders : Binds K d_all_orders ["many"] []
  f_lies_between : Addr
  d_lies_between : FuncData
  F_lies_between : Fun K "lies_between" "lies_between" s_lies_between f_lies_between d_lies_between
  g_lies_between : mg "lies_between" = some (.ref f_lies_between)
  b_lies_between : Binds K d_lies_between ["a", "b", "c"] []
  f_ways_meet : Addr
  d_ways_meet : FuncData
  F_ways_meet : Fun K "ways_meet" "ways_meet" s_ways_meet f_ways_meet d_ways_meet
  g_ways_meet : mg "ways_meet" = some (.ref f_ways_meet)
  b_ways_meet : Binds K d_ways_meet ["a", "b", "c", "d"] []
  f_never_cross : Addr
  d_never_cross : FuncData
  F_never_cross : Fun K "never_cross" "never_cross" s_never_cross f_never_cross d_never_cross
  g_never_cross : mg "never_cross" = some (.ref f_never_cross)
  b_never_cross : Binds K d_never_cross ["red", "blue", "names"] []
  f_all_pairs : Addr
  d_all_pairs : FuncData
  F_all_pairs : Fun K "all_pairs" "all_pairs" s_all_pairs f_all_pairs d_all_pairs
  g_all_pairs : mg "all_pairs" = some (.ref f_all_pairs)
  b_all_pairs : Binds K d_all_pairs ["red", "blue"] []
  f_pairs_shown : Addr
  d_pairs_shown : FuncData
  F_pairs_shown : Fun K "pairs_shown" "pairs_shown" s_pairs_shown f_pairs_shown d_pairs_shown
  g_pairs_shown : mg "pairs_shown" = some (.ref f_pairs_shown)
  b_pairs_shown : Binds K d_pairs_shown ["red", "blue"] []
  f_pairs_many : Addr
  d_pairs_many : FuncData
  F_pairs_many : Fun K "pairs_many" "pairs_many" s_pairs_many f_pairs_many d_pairs_many
  g_pairs_many : mg "pairs_many" = some (.ref f_pairs_many)
  b_pairs_many : Binds K d_pairs_many ["red", "blue"] []
  f__law_same : Addr
  d__law_same : FuncData
  F__law_same : Fun K "_law_same" "_law_same" s__law_same f__law_same d__law_same
  g__law_same : mg "_law_same" = some (.ref f__law_same)
  b__law_same : Binds K d__law_same ["one", "due"] []
  f__law_draw : Addr
  d__law_draw : FuncData
  F__law_draw : Fun K "_law_draw" "_law_draw" s__law_draw f__law_draw d__law_draw
  g__law_draw : mg "_law_draw" = some (.ref f__law_draw)
  b__law_draw : Binds K d__law_draw ["hand", "many"] []
  f__law_any : Addr
  d__law_any : FuncData
  F__law_any : Fun K "_law_any" "_law_any" s__law_any f__law_any d__law_any
  g__law_any : mg "_law_any" = some (.ref f__law_any)
  b__law_any : Binds K d__law_any ["hand", "some"] []
  f__law_drawn : Addr
  d__law_drawn : FuncData
  F__law_drawn : Fun K "_law_drawn" "_law_drawn" s__law_drawn f__law_drawn d__law_drawn
  g__law_drawn : mg "_law_drawn" = some (.ref f__law_drawn)
  b__law_drawn : Binds K d__law_drawn ["hand", "wide"] []
  f__law_mixed : Addr
  d__law_mixed : FuncData
  F__law_mixed : Fun K "_law_mixed" "_law_mixed" s__law_mixed f__law_mixed d__law_mixed
  g__law_mixed : mg "_law_mixed" = some (.ref f__law_mixed)
  b__law_mixed : Binds K d__law_mixed ["hand", "things"] []
  f__law_area : Addr
  d__law_area : FuncData
  F__law_area : Fun K "_law_area" "_law_area" s__law_area f__law_area d__law_area
  g__law_area : mg "_law_area" = some (.ref f__law_area)
  b__law_area : Binds K d__law_area ["a", "b", "c"] []
  f__law_is_lined : Addr
  d__law_is_lined : FuncData
  F__law_is_lined : Fun K "_law_is_lined" "_law_is_lined" s__law_is_lined f__law_is_lined d__law_is_lined
  g__law_is_lined : mg "_law_is_lined" = some (.ref f__law_is_lined)
  b__law_is_lined : Binds K d__law_is_lined ["some", "a", "c"] []
  f__law_free_dots : Addr
  d__law_free_dots : FuncData
  F__law_free_dots : Fun K "_law_free_dots" "_law_free_dots" s__law_free_dots f__law_free_dots d__law_free_dots
  g__law_free_dots : mg "_law_free_dots" = some (.ref f__law_free_dots)
  b__law_free_dots : Binds K d__law_free_dots ["hand", "many"] []
  f__law_two : Addr
  d__law_two : FuncData
  F__law_two : Fun K "_law_two" "_law_two" s__law_two f__law_two d__law_two
  g__law_two : mg "_law_two" = some (.ref f__law_two)
  b__law_two : Binds K d__law_two ["hand", "sizes"] []
  f__law_orders : Addr
  d__law_orders : FuncData
  F__law_orders : Fun K "_law_orders" "_law_orders" s__law_orders f__law_orders d__law_orders
  g__law_orders : mg "_law_orders" = some (.ref f__law_orders)
  b__law_orders : Binds K d__law_orders ["many"] []
  f__law_turn : Addr
  d__law_turn : FuncData
  F__law_turn : Fun K "_law_turn" "_law_turn" s__law_turn f__law_turn d__law_turn
  g__law_turn : mg "_law_turn" = some (.ref f__law_turn)
  b__law_turn : Binds K d__law_turn ["a", "b", "c"] []
  f__law_do_cross : Addr
  d__law_do_cross : FuncData
  F__law_do_cross : Fun K "_law_do_cross" "_law_do_cross" s__law_do_cross f__law_do_cross d__law_do_cross
  g__law_do_cross : mg "_law_do_cross" = some (.ref f__law_do_cross)
  b__law_do_cross : Binds K d__law_do_cross ["a", "b", "c", "d"] []
  f__law_are_pairs : Addr
  d__law_are_pairs : FuncData
  F__law_are_pairs : Fun K "_law_are_pairs" "_law_are_pairs" s__law_are_pairs f__law_are_pairs d__law_are_pairs
  g__law_are_pairs : mg "_law_are_pairs" = some (.ref f__law_are_pairs)
  b__law_are_pairs : Binds K d__law_are_pairs ["red", "blue", "row"] []
  f_mirrored : Addr
  d_mirrored : FuncData
  F_mirrored : Fun K "mirrored" "mirrored" s_mirrored f_mirrored d_mirrored
  g_mirrored : mg "mirrored" = some (.ref f_mirrored)
  b_mirrored : Binds K d_mirrored ["crowd"] []
  f_check_dots : Addr
  d_check_dots : FuncData
  F_check_dots : Fun K "check_dots" "check_dots" s_check_dots f_check_dots d_check_dots
  g_check_dots : mg "check_dots" = some (.ref f_check_dots)
  b_check_dots : Binds K d_check_dots ["some"] []
  f_near_enough : Addr
  d_near_enough : FuncData
  F_near_enough : Fun K "near_enough" "near_enough" s_near_enough f_near_enough d_near_enough
  g_near_enough : mg "near_enough" = some (.ref f_near_enough)
  b_near_enough : Binds K d_near_enough ["crowd"] []
  f_moved : Addr
  d_moved : FuncData
  F_moved : Fun K "moved" "moved" s_moved f_moved d_moved
  g_moved : mg "moved" = some (.ref f_moved)
  b_moved : Binds K d_moved ["crowd", "by"] []
  f__law_is_right : Addr
  d__law_is_right : FuncData
  F__law_is_right : Fun K "_law_is_right" "_law_is_right" s__law_is_right f__law_is_right d__law_is_right
  g__law_is_right : mg "_law_is_right" = some (.ref f__law_is_right)
  b__law_is_right : Binds K d__law_is_right ["hand", "red", "blue"] []
  f_law : Addr
  d_law : FuncData
  F_law : Fun K "law" "law" s_law f_law d_law
  g_law : mg "law" = some (.ref f_law)
  b_law : Binds K d_law ["script"] []
  t_MOST_PLACE : Tok
  m_MOST_PLACE : mg "MOST_PLACE" = some (.int 10000 t_MOST_PLACE)
  t_LEAST_CROWD : Tok
  m_LEAST_CROWD : mg "LEAST_CROWD" = some (.int 3 t_LEAST_CROWD)
  t_MOST_CROWD : Tok
  m_MOST_CROWD : mg "MOST_CROWD" = some (.int 12 t_MOST_CROWD)
  t_MOST_PAIRED : Tok
  m_MOST_PAIRED : mg "MOST_PAIRED" = some (.int 6 t_MOST_PAIRED)
  z_abs : mg "abs" = none
  z_int : mg "int" = none
  z_len : mg "len" = none
  z_isinstance : mg "isinstance" = none
  z_bool : mg "bool" = none
  z_all : mg "all" = none
  z_tuple : mg "tuple" = none
  z_enumerate : mg "enumerate" = none
  z_any : mg "any" = none
  z_range : mg "range" = none
  z_min : mg "min" = none
  z_max : mg "max" = none
  z_list : mg "list" = none
  z_zip : mg "zip" = none
  z_set : mg "set" = none
  z_repr : mg "repr" = none
section
variable {P : Program} {w : World} {K : PySem.W.Frag} {mg : Str → Option Value} {base : Heap}
/-! ### ints, dots, crowds -/
def S_is_integer : Dl.Spec := datS fun ds k => match ds with
  | [d] => isiOk d ∧ k (.dat (.bl (isInt d)))
  | _ => False
def w_is_integer : WS := wRet (wAndV (wIsi "int" (wN 0)) (wNotV (wIsi "bool" (wN 0))))
theorem vc_is_integer : ∀ as rs Qd, ArRs as rs → rs.length = 1 → S_is_integer as Qd → w_is_integer (fin rs Qd) (gm0 1 rs) := vc_dat fun ds k hn hp => by
  obtain ⟨d, rfl⟩ := len1 hn
  obtain ⟨hi, q⟩ := hp
  show w_is_integer (finD k) [some (.dat d)]
  rw [← isInt_is] at q
  cases d <;> first | exact hi.elim | exact ⟨True.intro, True.intro, q⟩ | exact ⟨True.intro, q⟩
theorem ok_is_integer (E : Fx K mg) : FnG P w K mg base CX0 1 E.f_is_integer E.d_is_integer ["thing"] (spOf K 1 S_is_integer) := fn_data E.F_is_integer sc_is_integer (wb := w_is_integer) (fun c hK cdv A outer s H Ex hr hgd => by
  subst hK
  have hu1 := hu_of hr
  have hu0 := Nat.lt_of_succ_lt hu1
  have hr65 := unit65 hr
  have sc := sc_is_integer
  exact psd_one (psd_ret (pd_and (pd_isi (T := "int") (by decide) E.z_isinstance E.z_int (by decide +kernel) (pd_n 0)) (pd_one (pd_not (pd_isi (T := "bool") (by decide) E.z_isinstance E.z_bool (by decide +kernel) (pd_n 0))))))) vc_is_integer
def S_is_within : Dl.Spec := datS fun ds k => match ds with
  | [d, .int lo, .int hi] => isiOk d ∧ k (.dat (.bl (within d lo hi)))
  | _ => False
def w_is_within : WS := wRet (wAndV (wCall 1 S_is_integer (waC (wN 0) (waN))) (wChain gLe gLe (wN 1) (wN 0) (wN 2)))
theorem vc_is_within : ∀ as rs Qd, ArRs as rs → rs.length = 3 → S_is_within as Qd → w_is_within (fin rs Qd) (gm0 3 rs) := vc_dat fun ds k hn hp => by
  split at hp; rotate_left; exact hp.elim
  rename_i d lo hi
  obtain ⟨hp, q⟩ := hp
  show w_is_within (finD k) [some (.dat d), some (.dat (.int lo)), some (.dat (.int hi))]
  simp only [w_is_within, S_is_integer, wD, wN, wNeg, wBin, wTv, wChain, wAndT, wOrT, wNotT, wAndV, wOrV, wNotV, wIf, gAt, gDk, gDt, gIx, gAdd, gSub, gMul, gDiv, gMod, gPow, gLt, gLtT, gLe, gGt, gGe, gEqA, gNeA, gIs, gIsN, gIsB, gNisB, gInT, gNinT, wChain3, isN, wSl, gSl, woN, woS, wCB, peeks, peek, nth, put, R.look, take, takes, gLen, gSumA, gAbs, gInt, gTuple, gList, wIsi, wMut, isMut, mAppend, mExtend, mPop, mInsert, mCount, wSeq, wRet, wIfS, wDrop, wAsg, wPar, wAug, gAddI, stN, stTup, stCons, stNil, stSub, storeAt, wNil, waN, waC, wTup, wLst, wCall, wCallL, wDispI, wDispS, gIndexD, outK, retR, finD, finH, leftH, wiSeq, wiZip, zipD, wiEnum, wRev, wRev0, wLenSet, wRd, tyD, gIndex, wiStr, wiEnumS, gAtS, gInS, gNinS, gJoin, gCountS, gIndexS, wLstR, wTupR, wIsi2, isT, tyn, wiR1, wiR2, wLc, wDc, wFor, wLock, wiKey, wGet2, isDi, getD, wNewK, wNewT, wipeG, wYes, datS_0, datS_1, datS_2, datS_3, datS_4, datS_5, hanS_0, hanS_1, hanS_2, hanS_3, true_and, and_true, List.map_cons, List.map_nil, List.length_cons, List.length_nil, List.set_cons_zero, List.set_cons_succ]
  refine ⟨hp, ?_⟩
  cases d with
  | int i =>
    by_cases h : lo ≤ i
    · simpa [isInt, within, h] using q
    · simpa [isInt, within, h] using q
  | _ => simpa [isInt, within] using q
theorem ok_is_within (E : Fx K mg) : FnG P w K mg base CX0 2 E.f_is_within E.d_is_within ["thing", "low", "high"] (spOf K 3 S_is_within) := fn_data E.F_is_within sc_is_within (wb := w_is_within) (fun c hK cdv A outer s H Ex hr hgd => by
  subst hK
  have hu1 := hu_of hr
  have hu0 := Nat.lt_of_succ_lt hu1
  have hr65 := unit65 hr
  have sc := sc_is_within
  exact psd_one (psd_ret (pd_and (pd_call (ok_is_integer E) rfl (hr.mono (by decide)) hgd E.g_is_integer E.F_is_integer.kp E.b_is_integer (pda_cons (pd_n 0) (pda_nil))) (pd_one (pd_chain ok_le ok_le (pd_n 1) (pd_n 0) (pd_n 2)))))) vc_is_within
def S_is_dot : Dl.Spec := datS fun ds k => match ds with
  | [d] => pl d = true ∧ k (.dat (.bl (isDot d)))
  | _ => False
def w_is_dot : WS := wSeq (wIfS (wOrT (wNotT (wTv (wIsi "tuple" (wN 0)))) (wTv (wBin gNeA (wCB gLen (waC (wN 0) (waN))) (wD (.int 2))))) (wRet (wD (.bl false))) (wNil)) (wRet (wCB gAll (waC (wLc [1] (wiSeq (wN 0)) (stN 1) (wYes) (wCall 3 S_is_within (waC (wN 1) (waC (wNeg (wD (.int 10000))) (waC (wD (.int 10000)) (waN)))))) (waN))))
theorem isDot_no {l : List D} (h : l.length ≠ 2) : isDot (.tup l) = false := by
  unfold isDot
  split
  · rename_i a b e
    cases e
    exact absurd rfl h
  · rfl
theorem ne_int (i j : Int) : eqD (.int i) (.int j) = decide (i = j) := by
  unfold eqD
  simp only [toP, PyData.eqv]
  rfl
theorem vc_is_dot : ∀ as rs Qd, ArRs as rs → rs.length = 1 → S_is_dot as Qd → w_is_dot (fin rs Qd) (gm0 2 rs) := vc_dat fun ds k hn hp => by
  obtain ⟨d, rfl⟩ := len1 hn
  obtain ⟨hi, q⟩ := hp
  show w_is_dot (finD k) [some (.dat d), none]
  simp only [w_is_dot, S_is_within, wD, wN, wNeg, wBin, wTv, wChain, wAndT, wOrT, wNotT, wAndV, wOrV, wNotV, wIf, gAt, gDk, gDt, gIx, gAdd, gSub, gMul, gDiv, gMod, gPow, gLt, gLtT, gLe, gGt, gGe, gEqA, gNeA, gIs, gIsN, gIsB, gNisB, gInT, gNinT, wChain3, isN, wSl, gSl, woN, woS, wCB, peeks, peek, nth, put, R.look, take, takes, gLen, gSumA, gAbs, gInt, gTuple, gList, wIsi, wMut, isMut, mAppend, mExtend, mPop, mInsert, mCount, wSeq, wRet, wIfS, wDrop, wAsg, wPar, wAug, gAddI, stN, stTup, stCons, stNil, stSub, storeAt, wNil, waN, waC, wTup, wLst, wCall, wCallL, wDispI, wDispS, gIndexD, outK, retR, finD, finH, leftH, wiSeq, wiZip, zipD, wiEnum, wRev, wRev0, wLenSet, wRd, tyD, gIndex, wiStr, wiEnumS, gAtS, gInS, gNinS, gJoin, gCountS, gIndexS, wLstR, wTupR, wIsi2, isT, tyn, wiR1, wiR2, wLc, wDc, wFor, wLock, wiKey, wGet2, isDi, getD, wNewK, wNewT, wipeG, wYes, datS_0, datS_1, datS_2, datS_3, datS_4, datS_5, hanS_0, hanS_1, hanS_2, hanS_3, true_and, and_true, List.map_cons, List.map_nil, List.length_cons, List.length_nil, List.set_cons_zero, List.set_cons_succ]
  refine ⟨pl_isi hi, ?_⟩
  cases d with
  | tup l =>
    simp only [isT, tyn, wD, wN, wNeg, wBin, wTv, wChain, wAndT, wOrT, wNotT, wAndV, wOrV, wNotV, wIf, gAt, gDk, gDt, gIx, gAdd, gSub, gMul, gDiv, gMod, gPow, gLt, gLtT, gLe, gGt, gGe, gEqA, gNeA, gIs, gIsN, gIsB, gNisB, gInT, gNinT, wChain3, isN, wSl, gSl, woN, woS, wCB, peeks, peek, nth, put, R.look, take, takes, gLen, gSumA, gAbs, gInt, gTuple, gList, wIsi, wMut, isMut, mAppend, mExtend, mPop, mInsert, mCount, wSeq, wRet, wIfS, wDrop, wAsg, wPar, wAug, gAddI, stN, stTup, stCons, stNil, stSub, storeAt, wNil, waN, waC, wTup, wLst, wCall, wCallL, wDispI, wDispS, gIndexD, outK, retR, finD, finH, leftH, wiSeq, wiZip, zipD, wiEnum, wRev, wRev0, wLenSet, wRd, tyD, gIndex, wiStr, wiEnumS, gAtS, gInS, gNinS, gJoin, gCountS, gIndexS, wLstR, wTupR, wIsi2, isT, tyn, wiR1, wiR2, wLc, wDc, wFor, wLock, wiKey, wGet2, isDi, getD, wNewK, wNewT, wipeG, wYes, datS_0, datS_1, datS_2, datS_3, datS_4, datS_5, hanS_0, hanS_1, hanS_2, hanS_3, true_and, and_true, List.map_cons, List.map_nil, List.length_cons, List.length_nil, List.set_cons_zero, List.set_cons_succ, gNe, ne_int, sh]
    by_cases h2 : l.length = 2
    · obtain ⟨a, b, rfl⟩ := len2 h2
      have ha : isiOk a := pl_isi (pls_mem hi (by simp))
      have hb : isiOk b := pl_isi (pls_mem hi (by simp))
      simp only [lcLoop, gAll, bls, wD, wN, wNeg, wBin, wTv, wChain, wAndT, wOrT, wNotT, wAndV, wOrV, wNotV, wIf, gAt, gDk, gDt, gIx, gAdd, gSub, gMul, gDiv, gMod, gPow, gLt, gLtT, gLe, gGt, gGe, gEqA, gNeA, gIs, gIsN, gIsB, gNisB, gInT, gNinT, wChain3, isN, wSl, gSl, woN, woS, wCB, peeks, peek, nth, put, R.look, take, takes, gLen, gSumA, gAbs, gInt, gTuple, gList, wIsi, wMut, isMut, mAppend, mExtend, mPop, mInsert, mCount, wSeq, wRet, wIfS, wDrop, wAsg, wPar, wAug, gAddI, stN, stTup, stCons, stNil, stSub, storeAt, wNil, waN, waC, wTup, wLst, wCall, wCallL, wDispI, wDispS, gIndexD, outK, retR, finD, finH, leftH, wiSeq, wiZip, zipD, wiEnum, wRev, wRev0, wLenSet, wRd, tyD, gIndex, wiStr, wiEnumS, gAtS, gInS, gNinS, gJoin, gCountS, gIndexS, wLstR, wTupR, wIsi2, isT, tyn, wiR1, wiR2, wLc, wDc, wFor, wLock, wiKey, wGet2, isDi, getD, wNewK, wNewT, wipeG, wYes, datS_0, datS_1, datS_2, datS_3, datS_4, datS_5, hanS_0, hanS_1, hanS_2, hanS_3, true_and, and_true, List.map_cons, List.map_nil, List.length_cons, List.length_nil, List.set_cons_zero, List.set_cons_succ, isDot] at q ⊢
      simpa [bls, ha, hb] using q
    · rw [isDot_no h2] at q
      have : ¬ ((l.length : Int) = 2) := by omega
      simpa [this] using q
  | _ => exact q
theorem ok_is_dot (E : Fx K mg) : FnG P w K mg base CX0 3 E.f_is_dot E.d_is_dot ["thing"] (spOf K 1 S_is_dot) := fn_data E.F_is_dot sc_is_dot (wb := w_is_dot) (fun c hK cdv A outer s H Ex hr hgd => by
  subst hK
  have hu1 := hu_of hr
  have hu0 := Nat.lt_of_succ_lt hu1
  have hr65 := unit65 hr
  have sc := sc_is_dot
  exact psd_cons (psd_if (L2.PW.pt (pwd_or (ptd_not (ptd_val (pd_isi (T := "tuple") (by decide) E.z_isinstance E.z_tuple (by decide +kernel) (pd_n 0)))) (pwd_or1 (ptd_cmp (ok_neA hr.units) (pd_callB ok_len E.z_len (by decide +kernel) (pda_cons (pd_n 0) (pda_nil))) (pd_int))))) (psd_one (psd_ret (pd_bl))) (psd_nil)) (psd_one (psd_ret (pd_callB (ok_all rfl) E.z_all (by decide +kernel) (pda_cons (pd_lc (own := [("one", 1)]) (tgs := [1]) rfl sc.nd (pid_seq (pd_n 0)) (by (show blkC ["thing", "one"] (defScope s_is_dot) _ _ = true); decide +kernel) (by decide) (fun _ _ _ _ _ => pgd_n (i := 1) sc.nd) (fun _ _ _ _ _ => ptsd_nil) (fun _ _ _ _ _ => pd_call (ok_is_within E) rfl (hr.mono (by decide)) hgd E.g_is_within E.F_is_within.kp E.b_is_within (pda_cons (pd_n 1) (pda_cons (pd_neg (pd_gint E.m_MOST_PLACE)) (pda_cons (pd_gint E.m_MOST_PLACE) (pda_nil)))))) (pda_nil)))))) vc_is_dot
def S_is_crowd : Dl.Spec := datS fun ds k => match ds with
  | [d] => pl d = true ∧ k (.dat (.bl (isCrowd d)))
  | _ => False
def w_is_crowd : WS := wSeq (wIfS (wOrT (wNotT (wTv (wIsi "tuple" (wN 0)))) (wNotT (wTv (wChain gLe gLe (wD (.int 3)) (wCB gLen (waC (wN 0) (waN))) (wD (.int 12)))))) (wRet (wD (.bl false))) (wNil)) (wRet (wAndV (wCB gAll (waC (wLc [1] (wiSeq (wN 0)) (stN 1) (wYes) (wCall 1 S_is_dot (waC (wN 1) (waN)))) (waN))) (wBin gEqA (wCB gLen (waC (wDc KinT [1] (wiSeq (wN 0)) (stN 1) (wYes) (wN 1) (wD (.bl true))) (waN))) (wCB gLen (waC (wN 0) (waN))))))
theorem all_isDot : ∀ l : List D, l.all isDot = true → ∃ c : List (Int × Int), l = c.map dotD ∧ ∀ p ∈ c, -10000 ≤ p.1 ∧ p.1 ≤ 10000 ∧ -10000 ≤ p.2 ∧ p.2 ≤ 10000
  | [], _ => ⟨[], rfl, by simp⟩
  | d :: l, h => by
    rw [List.all_cons, Bool.and_eq_true] at h
    obtain ⟨p, e, hb⟩ := isDot_eq h.1
    obtain ⟨c, e2, hc⟩ := all_isDot l h.2
    refine ⟨p :: c, by rw [e, e2]; rfl, fun q hq => ?_⟩
    rcases List.mem_cons.mp hq with rfl | hq
    · exact hb
    · exact hc q hq
theorem all_map_id {α : Type} (f : α → Bool) (l : List α) : (l.map f).all id = l.all f := by simp
theorem keysOf_dots (c : List (Int × Int)) : ((c.map dotD).map fun d => (tkD d).getD []).Nodup ↔ c.Nodup := by
  have e : ((c.map dotD).map fun d => (tkD d).getD []) = c.map keyP := by
    rw [List.map_map]
    rfl
  rw [e]
  exact ⟨fun z => (List.pairwise_map.mp z).imp fun h e => h (by rw [e]), fun z => List.pairwise_map.mpr (z.imp fun h e => h (keyP_inj e))⟩
theorem vc_is_crowd : ∀ as rs Qd, ArRs as rs → rs.length = 1 → S_is_crowd as Qd → w_is_crowd (fin rs Qd) (gm0 2 rs) := vc_dat fun ds k hn hp => by
  obtain ⟨d, rfl⟩ := len1 hn
  obtain ⟨hi, q⟩ := hp
  show w_is_crowd (finD k) [some (.dat d), none]
  simp only [w_is_crowd, S_is_dot, wD, wN, wNeg, wBin, wTv, wChain, wAndT, wOrT, wNotT, wAndV, wOrV, wNotV, wIf, gAt, gDk, gDt, gIx, gAdd, gSub, gMul, gDiv, gMod, gPow, gLt, gLtT, gLe, gGt, gGe, gEqA, gNeA, gIs, gIsN, gIsB, gNisB, gInT, gNinT, wChain3, isN, wSl, gSl, woN, woS, wCB, peeks, peek, nth, put, R.look, take, takes, gLen, gSumA, gAbs, gInt, gTuple, gList, wIsi, wMut, isMut, mAppend, mExtend, mPop, mInsert, mCount, wSeq, wRet, wIfS, wDrop, wAsg, wPar, wAug, gAddI, stN, stTup, stCons, stNil, stSub, storeAt, wNil, waN, waC, wTup, wLst, wCall, wCallL, wDispI, wDispS, gIndexD, outK, retR, finD, finH, leftH, wiSeq, wiZip, zipD, wiEnum, wRev, wRev0, wLenSet, wRd, tyD, gIndex, wiStr, wiEnumS, gAtS, gInS, gNinS, gJoin, gCountS, gIndexS, wLstR, wTupR, wIsi2, isT, tyn, wiR1, wiR2, wLc, wDc, wFor, wLock, wiKey, wGet2, isDi, getD, wNewK, wNewT, wipeG, wYes, datS_0, datS_1, datS_2, datS_3, datS_4, datS_5, hanS_0, hanS_1, hanS_2, hanS_3, true_and, and_true, List.map_cons, List.map_nil, List.length_cons, List.length_nil, List.set_cons_zero, List.set_cons_succ]
  refine ⟨pl_isi hi, ?_⟩
  cases d with
  | tup l =>
    simp only [isT, tyn, wD, wN, wNeg, wBin, wTv, wChain, wAndT, wOrT, wNotT, wAndV, wOrV, wNotV, wIf, gAt, gDk, gDt, gIx, gAdd, gSub, gMul, gDiv, gMod, gPow, gLt, gLtT, gLe, gGt, gGe, gEqA, gNeA, gIs, gIsN, gIsB, gNisB, gInT, gNinT, wChain3, isN, wSl, gSl, woN, woS, wCB, peeks, peek, nth, put, R.look, take, takes, gLen, gSumA, gAbs, gInt, gTuple, gList, wIsi, wMut, isMut, mAppend, mExtend, mPop, mInsert, mCount, wSeq, wRet, wIfS, wDrop, wAsg, wPar, wAug, gAddI, stN, stTup, stCons, stNil, stSub, storeAt, wNil, waN, waC, wTup, wLst, wCall, wCallL, wDispI, wDispS, gIndexD, outK, retR, finD, finH, leftH, wiSeq, wiZip, zipD, wiEnum, wRev, wRev0, wLenSet, wRd, tyD, gIndex, wiStr, wiEnumS, gAtS, gInS, gNinS, gJoin, gCountS, gIndexS, wLstR, wTupR, wIsi2, isT, tyn, wiR1, wiR2, wLc, wDc, wFor, wLock, wiKey, wGet2, isDi, getD, wNewK, wNewT, wipeG, wYes, datS_0, datS_1, datS_2, datS_3, datS_4, datS_5, hanS_0, hanS_1, hanS_2, hanS_3, true_and, and_true, List.map_cons, List.map_nil, List.length_cons, List.length_nil, List.set_cons_zero, List.set_cons_succ]
    by_cases h2 : 3 ≤ l.length ∧ l.length ≤ 12
    · have e1 : (3 : Int) ≤ l.length := by omega
      have e2 : (l.length : Int) ≤ 12 := by omega
      simp [e1, e2]
      refine lc_map (fun d => .bl (isDot d)) _ l (by omega) True.intro (fun d hd K hK => ?_) ?_
      · have hpd : pl d = true := pls_mem hi hd
        simp only [wD, wN, wNeg, wBin, wTv, wChain, wAndT, wOrT, wNotT, wAndV, wOrV, wNotV, wIf, gAt, gDk, gDt, gIx, gAdd, gSub, gMul, gDiv, gMod, gPow, gLt, gLtT, gLe, gGt, gGe, gEqA, gNeA, gIs, gIsN, gIsB, gNisB, gInT, gNinT, wChain3, isN, wSl, gSl, woN, woS, wCB, peeks, peek, nth, put, R.look, take, takes, gLen, gSumA, gAbs, gInt, gTuple, gList, wIsi, wMut, isMut, mAppend, mExtend, mPop, mInsert, mCount, wSeq, wRet, wIfS, wDrop, wAsg, wPar, wAug, gAddI, stN, stTup, stCons, stNil, stSub, storeAt, wNil, waN, waC, wTup, wLst, wCall, wCallL, wDispI, wDispS, gIndexD, outK, retR, finD, finH, leftH, wiSeq, wiZip, zipD, wiEnum, wRev, wRev0, wLenSet, wRd, tyD, gIndex, wiStr, wiEnumS, gAtS, gInS, gNinS, gJoin, gCountS, gIndexS, wLstR, wTupR, wIsi2, isT, tyn, wiR1, wiR2, wLc, wDc, wFor, wLock, wiKey, wGet2, isDi, getD, wNewK, wNewT, wipeG, wYes, datS_0, datS_1, datS_2, datS_3, datS_4, datS_5, hanS_0, hanS_1, hanS_2, hanS_3, true_and, and_true, List.map_cons, List.map_nil, List.length_cons, List.length_nil, List.set_cons_zero, List.set_cons_succ]
        simpa [hpd] using hK
      · simp only [gAll, bls_map, all_map_id, wD, wN, wNeg, wBin, wTv, wChain, wAndT, wOrT, wNotT, wAndV, wOrV, wNotV, wIf, gAt, gDk, gDt, gIx, gAdd, gSub, gMul, gDiv, gMod, gPow, gLt, gLtT, gLe, gGt, gGe, gEqA, gNeA, gIs, gIsN, gIsB, gNisB, gInT, gNinT, wChain3, isN, wSl, gSl, woN, woS, wCB, peeks, peek, nth, put, R.look, take, takes, gLen, gSumA, gAbs, gInt, gTuple, gList, wIsi, wMut, isMut, mAppend, mExtend, mPop, mInsert, mCount, wSeq, wRet, wIfS, wDrop, wAsg, wPar, wAug, gAddI, stN, stTup, stCons, stNil, stSub, storeAt, wNil, waN, waC, wTup, wLst, wCall, wCallL, wDispI, wDispS, gIndexD, outK, retR, finD, finH, leftH, wiSeq, wiZip, zipD, wiEnum, wRev, wRev0, wLenSet, wRd, tyD, gIndex, wiStr, wiEnumS, gAtS, gInS, gNinS, gJoin, gCountS, gIndexS, wLstR, wTupR, wIsi2, isT, tyn, wiR1, wiR2, wLc, wDc, wFor, wLock, wiKey, wGet2, isDi, getD, wNewK, wNewT, wipeG, wYes, datS_0, datS_1, datS_2, datS_3, datS_4, datS_5, hanS_0, hanS_1, hanS_2, hanS_3, true_and, and_true, List.map_cons, List.map_nil, List.length_cons, List.length_nil, List.set_cons_zero, List.set_cons_succ]
        by_cases h3 : l.all isDot = true
        · obtain ⟨c, rfl, hb⟩ := all_isDot l h3
          rw [List.length_map] at h2
          simp only [h3, wD, wN, wNeg, wBin, wTv, wChain, wAndT, wOrT, wNotT, wAndV, wOrV, wNotV, wIf, gAt, gDk, gDt, gIx, gAdd, gSub, gMul, gDiv, gMod, gPow, gLt, gLtT, gLe, gGt, gGe, gEqA, gNeA, gIs, gIsN, gIsB, gNisB, gInT, gNinT, wChain3, isN, wSl, gSl, woN, woS, wCB, peeks, peek, nth, put, R.look, take, takes, gLen, gSumA, gAbs, gInt, gTuple, gList, wIsi, wMut, isMut, mAppend, mExtend, mPop, mInsert, mCount, wSeq, wRet, wIfS, wDrop, wAsg, wPar, wAug, gAddI, stN, stTup, stCons, stNil, stSub, storeAt, wNil, waN, waC, wTup, wLst, wCall, wCallL, wDispI, wDispS, gIndexD, outK, retR, finD, finH, leftH, wiSeq, wiZip, zipD, wiEnum, wRev, wRev0, wLenSet, wRd, tyD, gIndex, wiStr, wiEnumS, gAtS, gInS, gNinS, gJoin, gCountS, gIndexS, wLstR, wTupR, wIsi2, isT, tyn, wiR1, wiR2, wLc, wDc, wFor, wLock, wiKey, wGet2, isDi, getD, wNewK, wNewT, wipeG, wYes, datS_0, datS_1, datS_2, datS_3, datS_4, datS_5, hanS_0, hanS_1, hanS_2, hanS_3, true_and, and_true, List.map_cons, List.map_nil, List.length_cons, List.length_nil, List.set_cons_zero, List.set_cons_succ]
          refine dots_dict c (by omega) True.intro (fun p hp K acc hacc hK => ?_) fun acc hacc => ?_
          · simp only [wD, wN, wNeg, wBin, wTv, wChain, wAndT, wOrT, wNotT, wAndV, wOrV, wNotV, wIf, gAt, gDk, gDt, gIx, gAdd, gSub, gMul, gDiv, gMod, gPow, gLt, gLtT, gLe, gGt, gGe, gEqA, gNeA, gIs, gIsN, gIsB, gNisB, gInT, gNinT, wChain3, isN, wSl, gSl, woN, woS, wCB, peeks, peek, nth, put, R.look, take, takes, gLen, gSumA, gAbs, gInt, gTuple, gList, wIsi, wMut, isMut, mAppend, mExtend, mPop, mInsert, mCount, wSeq, wRet, wIfS, wDrop, wAsg, wPar, wAug, gAddI, stN, stTup, stCons, stNil, stSub, storeAt, wNil, waN, waC, wTup, wLst, wCall, wCallL, wDispI, wDispS, gIndexD, outK, retR, finD, finH, leftH, wiSeq, wiZip, zipD, wiEnum, wRev, wRev0, wLenSet, wRd, tyD, gIndex, wiStr, wiEnumS, gAtS, gInS, gNinS, gJoin, gCountS, gIndexS, wLstR, wTupR, wIsi2, isT, tyn, wiR1, wiR2, wLc, wDc, wFor, wLock, wiKey, wGet2, isDi, getD, wNewK, wNewT, wipeG, wYes, datS_0, datS_1, datS_2, datS_3, datS_4, datS_5, hanS_0, hanS_1, hanS_2, hanS_3, true_and, and_true, List.map_cons, List.map_nil, List.length_cons, List.length_nil, List.set_cons_zero, List.set_cons_succ]
            rw [tkD_dot]
            exact ⟨by decide, hacc, hK⟩
          · simp only [KinT, dtOf, dkOf, gEq, ne_int, sh, wD, wN, wNeg, wBin, wTv, wChain, wAndT, wOrT, wNotT, wAndV, wOrV, wNotV, wIf, gAt, gDk, gDt, gIx, gAdd, gSub, gMul, gDiv, gMod, gPow, gLt, gLtT, gLe, gGt, gGe, gEqA, gNeA, gIs, gIsN, gIsB, gNisB, gInT, gNinT, wChain3, isN, wSl, gSl, woN, woS, wCB, peeks, peek, nth, put, R.look, take, takes, gLen, gSumA, gAbs, gInt, gTuple, gList, wIsi, wMut, isMut, mAppend, mExtend, mPop, mInsert, mCount, wSeq, wRet, wIfS, wDrop, wAsg, wPar, wAug, gAddI, stN, stTup, stCons, stNil, stSub, storeAt, wNil, waN, waC, wTup, wLst, wCall, wCallL, wDispI, wDispS, gIndexD, outK, retR, finD, finH, leftH, wiSeq, wiZip, zipD, wiEnum, wRev, wRev0, wLenSet, wRd, tyD, gIndex, wiStr, wiEnumS, gAtS, gInS, gNinS, gJoin, gCountS, gIndexS, wLstR, wTupR, wIsi2, isT, tyn, wiR1, wiR2, wLc, wDc, wFor, wLock, wiKey, wGet2, isDi, getD, wNewK, wNewT, wipeG, wYes, datS_0, datS_1, datS_2, datS_3, datS_4, datS_5, hanS_0, hanS_1, hanS_2, hanS_3, true_and, and_true, List.map_cons, List.map_nil, List.length_cons, List.length_nil, List.set_cons_zero, List.set_cons_succ]
            simp only [isCrowd, h3, h2, keysOf_dots, ← many_dots, List.length_map] at q
            simpa [hacc, h2, Int.ofNat_inj] using q
        · have h3 : l.all isDot = false := by simpa using h3
          simp only [h3, wD, wN, wNeg, wBin, wTv, wChain, wAndT, wOrT, wNotT, wAndV, wOrV, wNotV, wIf, gAt, gDk, gDt, gIx, gAdd, gSub, gMul, gDiv, gMod, gPow, gLt, gLtT, gLe, gGt, gGe, gEqA, gNeA, gIs, gIsN, gIsB, gNisB, gInT, gNinT, wChain3, isN, wSl, gSl, woN, woS, wCB, peeks, peek, nth, put, R.look, take, takes, gLen, gSumA, gAbs, gInt, gTuple, gList, wIsi, wMut, isMut, mAppend, mExtend, mPop, mInsert, mCount, wSeq, wRet, wIfS, wDrop, wAsg, wPar, wAug, gAddI, stN, stTup, stCons, stNil, stSub, storeAt, wNil, waN, waC, wTup, wLst, wCall, wCallL, wDispI, wDispS, gIndexD, outK, retR, finD, finH, leftH, wiSeq, wiZip, zipD, wiEnum, wRev, wRev0, wLenSet, wRd, tyD, gIndex, wiStr, wiEnumS, gAtS, gInS, gNinS, gJoin, gCountS, gIndexS, wLstR, wTupR, wIsi2, isT, tyn, wiR1, wiR2, wLc, wDc, wFor, wLock, wiKey, wGet2, isDi, getD, wNewK, wNewT, wipeG, wYes, datS_0, datS_1, datS_2, datS_3, datS_4, datS_5, hanS_0, hanS_1, hanS_2, hanS_3, true_and, and_true, List.map_cons, List.map_nil, List.length_cons, List.length_nil, List.set_cons_zero, List.set_cons_succ]
          simpa [isCrowd, h3] using q
    · have e0 : isCrowd (.tup l) = false := by
        unfold isCrowd
        by_cases a : 3 ≤ l.length
        · have b : ¬ l.length ≤ 12 := fun b => h2 ⟨a, b⟩
          simp [b]
        · simp [a]
      rw [e0] at q
      by_cases a : 3 ≤ l.length
      · have b : ¬ (l.length : Int) ≤ 12 := fun b => h2 ⟨a, by omega⟩
        have a' : (3 : Int) ≤ l.length := by omega
        simpa [a', b] using q
      · have a' : ¬ (3 : Int) ≤ l.length := by omega
        simpa [a'] using q
  | _ => exact q
theorem ok_is_crowd (E : Fx K mg) : FnG P w K mg base CX0 4 E.f_is_crowd E.d_is_crowd ["thing"] (spOf K 1 S_is_crowd) := fn_data E.F_is_crowd sc_is_crowd (wb := w_is_crowd) (fun c hK cdv A outer s H Ex hr hgd => by
  subst hK
  have hu1 := hu_of hr
  have hu0 := Nat.lt_of_succ_lt hu1
  have hr65 := unit65 hr
  have sc := sc_is_crowd
  exact psd_cons (psd_if (L2.PW.pt (pwd_or (ptd_not (ptd_val (pd_isi (T := "tuple") (by decide) E.z_isinstance E.z_tuple (by decide +kernel) (pd_n 0)))) (pwd_or1 (ptd_not (ptd_chain ok_le ok_le (pd_gint E.m_LEAST_CROWD) (pd_callB ok_len E.z_len (by decide +kernel) (pda_cons (pd_n 0) (pda_nil))) (pd_gint E.m_MOST_CROWD)))))) (psd_one (psd_ret (pd_bl))) (psd_nil)) (psd_one (psd_ret (pd_and (pd_callB (ok_all rfl) E.z_all (by decide +kernel) (pda_cons (pd_lc (own := [("one", 1)]) (tgs := [1]) rfl sc.nd (pid_seq (pd_n 0)) (by (show blkC ["thing", "one"] (defScope s_is_crowd) _ _ = true); decide +kernel) (by decide) (fun _ _ _ _ _ => pgd_n (i := 1) sc.nd) (fun _ _ _ _ _ => ptsd_nil) (fun _ _ _ _ _ => pd_call (ok_is_dot E) rfl (hr.mono (by decide)) hgd E.g_is_dot E.F_is_dot.kp E.b_is_dot (pda_cons (pd_n 1) (pda_nil)))) (pda_nil))) (pd_one (pd_cmp (ok_eqA hr.units) (pd_callB ok_len E.z_len (by decide +kernel) (pda_cons (pd_dc KinT (own := [("one", 1)]) (tgs := [1]) hu0 rfl sc.nd (pid_seq (pd_n 0)) (by (show blkC ["thing", "one"] (defScope s_is_crowd) _ _ = true); decide +kernel) (by decide) (fun _ _ _ _ _ => pgd_n (i := 1) sc.nd) (fun _ _ _ _ _ => ptsd_nil) (fun _ _ _ _ _ => pd_n 1) (fun _ _ _ _ _ => pd_bl)) (pda_nil))) (pd_callB ok_len E.z_len (by decide +kernel) (pda_cons (pd_n 0) (pda_nil))))))))) vc_is_crowd
def S_check_crowd : Dl.Spec := datS fun ds k => match ds with
  | [d] => pl d = true ∧ isCrowd d = true ∧ k (.dat .non)
  | _ => False
def w_check_crowd : WS := wIfS (wNotT (wTv (wCall 1 S_is_crowd (waC (wN 0) (waN))))) (wNo) (wNil)
theorem vc_check_crowd : ∀ as rs Qd, ArRs as rs → rs.length = 1 → S_check_crowd as Qd → w_check_crowd (fin rs Qd) (gm0 1 rs) := vc_dat fun ds k hn hp => by
  obtain ⟨d, rfl⟩ := len1 hn
  obtain ⟨hi, hc, q⟩ := hp
  show w_check_crowd (finD k) [some (.dat d)]
  simp only [w_check_crowd, S_is_crowd, hc, wD, wN, wNeg, wBin, wTv, wChain, wAndT, wOrT, wNotT, wAndV, wOrV, wNotV, wIf, gAt, gDk, gDt, gIx, gAdd, gSub, gMul, gDiv, gMod, gPow, gLt, gLtT, gLe, gGt, gGe, gEqA, gNeA, gIs, gIsN, gIsB, gNisB, gInT, gNinT, wChain3, isN, wSl, gSl, woN, woS, wCB, peeks, peek, nth, put, R.look, take, takes, gLen, gSumA, gAbs, gInt, gTuple, gList, wIsi, wMut, isMut, mAppend, mExtend, mPop, mInsert, mCount, wSeq, wRet, wIfS, wDrop, wAsg, wPar, wAug, gAddI, stN, stTup, stCons, stNil, stSub, storeAt, wNil, waN, waC, wTup, wLst, wCall, wCallL, wDispI, wDispS, gIndexD, outK, retR, finD, finH, leftH, wiSeq, wiZip, zipD, wiEnum, wRev, wRev0, wLenSet, wRd, tyD, gIndex, wiStr, wiEnumS, gAtS, gInS, gNinS, gJoin, gCountS, gIndexS, wLstR, wTupR, wIsi2, isT, tyn, wiR1, wiR2, wLc, wDc, wFor, wLock, wiKey, wGet2, isDi, getD, wNewK, wNewT, wipeG, wYes, datS_0, datS_1, datS_2, datS_3, datS_4, datS_5, hanS_0, hanS_1, hanS_2, hanS_3, true_and, and_true, List.map_cons, List.map_nil, List.length_cons, List.length_nil, List.set_cons_zero, List.set_cons_succ]
  exact ⟨hi, q⟩
theorem ok_check_crowd (E : Fx K mg) : FnG P w K mg base CX0 5 E.f_check_crowd E.d_check_crowd ["thing"] (spOf K 1 S_check_crowd) := fn_data E.F_check_crowd sc_check_crowd (wb := w_check_crowd) (fun c hK cdv A outer s H Ex hr hgd => by
  subst hK
  have hu1 := hu_of hr
  have hu0 := Nat.lt_of_succ_lt hu1
  have hr65 := unit65 hr
  have sc := sc_check_crowd
  exact psd_one (psd_if (ptd_not (ptd_val (pd_call (ok_is_crowd E) rfl (hr.mono (by decide)) hgd E.g_is_crowd E.F_is_crowd.kp E.b_is_crowd (pda_cons (pd_n 0) (pda_nil))))) (psd_one (psd_no)) (psd_nil))) vc_check_crowd
theorem dot_small {x y : Int} (h : isDot (dotD (x, y)) = true) : -10000 ≤ x ∧ x ≤ 10000 ∧ -10000 ≤ y ∧ y ≤ 10000 := by
  simp [isDot, dotD, within] at h
  omega
def S_check_dots : Dl.Spec := datS fun ds k => match ds with
  | [.tup l] => l.all pl = true ∧ l.all isDot = true ∧ l.length ≤ 1000000 ∧ k (.dat .non)
  | _ => False
def w_check_dots : WS := wFor (wiSeq (wN 0)) (stN 1) (wIfS (wNotT (wTv (wCall 1 S_is_dot (waC (wN 1) (waN))))) (wNo) (wNil))
theorem vc_check_dots : ∀ as rs Qd, ArRs as rs → rs.length = 1 → S_check_dots as Qd → w_check_dots (fin rs Qd) (gm0 2 rs) := vc_dat fun ds k hn hp => by
  split at hp; rotate_left; exact hp.elim
  rename_i l
  obtain ⟨h1, h2, h3, q⟩ := hp
  show w_check_dots (finD k) [some (.dat (.tup l)), none]
  simp only [w_check_dots, S_is_dot, wD, wN, wNeg, wBin, wTv, wChain, wAndT, wOrT, wNotT, wAndV, wOrV, wNotV, wIf, gAt, gDk, gDt, gIx, gAdd, gSub, gMul, gDiv, gMod, gPow, gLt, gLtT, gLe, gGt, gGe, gEqA, gNeA, gIs, gIsN, gIsB, gNisB, gInT, gNinT, wChain3, isN, wSl, gSl, woN, woS, wCB, peeks, peek, nth, put, R.look, take, takes, gLen, gSumA, gAbs, gInt, gTuple, gList, wIsi, wMut, isMut, mAppend, mExtend, mPop, mInsert, mCount, wSeq, wRet, wIfS, wDrop, wAsg, wPar, wAug, gAddI, stN, stTup, stCons, stNil, stSub, storeAt, wNil, waN, waC, wTup, wLst, wCall, wCallL, wDispI, wDispS, gIndexD, outK, retR, finD, finH, leftH, wiSeq, wiZip, zipD, wiEnum, wRev, wRev0, wLenSet, wRd, tyD, gIndex, wiStr, wiEnumS, gAtS, gInS, gNinS, gJoin, gCountS, gIndexS, wLstR, wTupR, wIsi2, isT, tyn, wiR1, wiR2, wLc, wDc, wFor, wLock, wiKey, wGet2, isDi, getD, wNewK, wNewT, wipeG, wYes, datS_0, datS_1, datS_2, datS_3, datS_4, datS_5, hanS_0, hanS_1, hanS_2, hanS_3, true_and, and_true, List.map_cons, List.map_nil, List.length_cons, List.length_nil, List.set_cons_zero, List.set_cons_succ]
  refine loop_rule (fun r Γ => (∀ d ∈ r, pl d = true ∧ isDot d = true) ∧ ∃ y, Γ = [some (.dat (.tup l)), y]) (fun _ _ _ => True.intro) (fun Γ _ => q) (fun d r Γ K hI hK => ?_) l _ ⟨fun d hd => ⟨List.all_eq_true.mp h1 d hd, List.all_eq_true.mp h2 d hd⟩, none, rfl⟩
  obtain ⟨hd, y, rfl⟩ := hI
  obtain ⟨a1, a2⟩ := hd d (by simp)
  simp only [a2, wD, wN, wNeg, wBin, wTv, wChain, wAndT, wOrT, wNotT, wAndV, wOrV, wNotV, wIf, gAt, gDk, gDt, gIx, gAdd, gSub, gMul, gDiv, gMod, gPow, gLt, gLtT, gLe, gGt, gGe, gEqA, gNeA, gIs, gIsN, gIsB, gNisB, gInT, gNinT, wChain3, isN, wSl, gSl, woN, woS, wCB, peeks, peek, nth, put, R.look, take, takes, gLen, gSumA, gAbs, gInt, gTuple, gList, wIsi, wMut, isMut, mAppend, mExtend, mPop, mInsert, mCount, wSeq, wRet, wIfS, wDrop, wAsg, wPar, wAug, gAddI, stN, stTup, stCons, stNil, stSub, storeAt, wNil, waN, waC, wTup, wLst, wCall, wCallL, wDispI, wDispS, gIndexD, outK, retR, finD, finH, leftH, wiSeq, wiZip, zipD, wiEnum, wRev, wRev0, wLenSet, wRd, tyD, gIndex, wiStr, wiEnumS, gAtS, gInS, gNinS, gJoin, gCountS, gIndexS, wLstR, wTupR, wIsi2, isT, tyn, wiR1, wiR2, wLc, wDc, wFor, wLock, wiKey, wGet2, isDi, getD, wNewK, wNewT, wipeG, wYes, datS_0, datS_1, datS_2, datS_3, datS_4, datS_5, hanS_0, hanS_1, hanS_2, hanS_3, true_and, and_true, List.map_cons, List.map_nil, List.length_cons, List.length_nil, List.set_cons_zero, List.set_cons_succ]
  refine ⟨by decide, a1, hK _ ⟨fun e he => hd e (List.mem_cons_of_mem _ he), _, rfl⟩⟩
theorem ok_check_dots (E : Fx K mg) : FnG P w K mg base CX0 4 E.f_check_dots E.d_check_dots ["some"] (spOf K 1 S_check_dots) := fn_data E.F_check_dots sc_check_dots (wb := w_check_dots) (fun c hK cdv A outer s H Ex hr hgd => by
  subst hK
  have hu1 := hu_of hr
  have hu0 := Nat.lt_of_succ_lt hu1
  have hr65 := unit65 hr
  have sc := sc_check_dots
  exact psd_one (psd_for PassesOwn.never rfl (pid_seq (pd_n 0)) (pgd_n (i := 1) sc.nd) (psd_one (psd_if (ptd_not (ptd_val (pd_call (ok_is_dot E) rfl (hr.mono (by decide)) hgd E.g_is_dot E.F_is_dot.kp E.b_is_dot (pda_cons (pd_n 1) (pda_nil))))) (psd_one (psd_no)) (psd_nil))))) vc_check_dots
/-! ### the hand that draws -/
def S__law_hand : Dl.Spec := datS fun ds k => match ds with
  | [.scr l] => l.length ≤ 63 ∧ ∀ h, HandOk h → k (.lst h)
  | _ => False
def w__law_hand : WS := wSeq (wAsg (wLc [2] (wiSeq (wSl (wN 0) (woN) (woS (wD (.int 63))))) (stN 2) (wYes) (wCB gAbs (waC (wCB gInt (waC (wN 2) (waN))) (waN)))) (stN 1)) (wRet (wLst (waC (wN 1) (waC (wD (.int 0)) (waC (wD (.int 0)) (waC (wBin gAdd (wD (.int 2333)) (wBin gMul (wD (.int 61)) (wCB gLen (waC (wN 1) (waN))))) (waC (wD (.int 0)) (waN))))))))
def absI (i : Int) : Int := if i < 0 then -i else i
theorem vc__law_hand : ∀ as rs Qd, ArRs as rs → rs.length = 1 → S__law_hand as Qd → w__law_hand (fin rs Qd) (gm0 3 rs) := vc_dat fun ds k hn hp => by
  split at hp; rotate_left; exact hp.elim
  rename_i l
  obtain ⟨h1, q⟩ := hp
  show w__law_hand (finD k) [some (.dat (.scr l)), none, none]
  conv => whnf
  intro a
  conv => whnf
  have hl : (cutD l none (some 63)).length ≤ 63 := by
    unfold cutD
    rw [List.length_take]
    refine Nat.le_trans (Nat.min_le_right _ _) ?_
    rw [List.length_drop]
    omega
  refine lc_map (fun d => match d with | .int i => .int (absI i) | d => d) _ _ (by rw [List.length_map]; omega) True.intro (fun d hd K hK => ?_) ?_
  · obtain ⟨i, _, rfl⟩ := List.mem_map.mp hd
    exact ⟨by simp [wipeG], hK⟩
  · repeat (first | (refine And.intro rfl ?_) | (refine And.intro True.intro ?_) | (refine And.intro ⟨rfl, rfl⟩ ?_) | (refine And.intro ⟨rfl, True.intro⟩ ?_) | (refine And.intro (by first | assumption | omega | exact .inr (.inl (fm_small _ (by decide) (by decide))) | (simp [put, wipeG]; done) | (simp [put, wipeG]; omega)) ?_) | (intro _))
    refine q _ (hand_new ((cutD l none (some 63)).map absI) ?_ (fun c hc => ?_) (by rw [List.length_map]; exact hl))
    · simp only [List.map_map]
      rfl
    · obtain ⟨i, _, rfl⟩ := List.mem_map.mp hc
      unfold absI
      split <;> omega
theorem ok__law_hand (E : Fx K mg) : FnG P w K mg base CX0 1 E.f__law_hand E.d__law_hand ["script"] (spOf K 1 S__law_hand) := fn_data E.F__law_hand sc__law_hand (wb := w__law_hand) (fun c hK cdv A outer s H Ex hr hgd => by
  subst hK
  have hu1 := hu_of hr
  have hu0 := Nat.lt_of_succ_lt hu1
  have hr65 := unit65 hr
  have sc := sc__law_hand
  exact psd_cons (psd_setLc (i := 1) (own := [("cell", 2)]) (tgs := [2]) rfl sc.nd (sw_true rfl rfl rfl (by decide +kernel)) (pid_seq (pd_slice (pd_n 0) (pod_none) (pod_some (pd_int)))) (by (show blkC ["script", "cells", "cell"] (defScope s__law_hand) _ _ = true); decide +kernel) (by decide) (fun _ _ _ _ _ => pgd_n (i := 2) sc.nd) (fun _ _ _ _ _ => ptsd_nil) (fun _ _ _ _ _ => pd_callB ok_abs E.z_abs (by decide +kernel) (pda_cons (pd_callT ok_int E.z_int (by decide +kernel) (pda_cons (pd_n 2) (pda_nil))) (pda_nil)))) (psd_one (psd_ret (pd_lst (pda_cons (pd_n 1) (pda_cons (pd_int) (pda_cons (pd_int) (pda_cons (pd_bin ok_add (pd_int) (pd_bin ok_mul (pd_int) (pd_callB ok_len E.z_len (by decide +kernel) (pda_cons (pd_n 1) (pda_nil))))) (pda_cons (pd_int) (pda_nil)))))))))) vc__law_hand
def S__law_draw : Dl.Spec := hanS fun h ds k => match ds with
  | [.int b] => HandOk h ∧ 0 < b ∧ b < 1000000000000 ∧ ∀ r h', 0 ≤ r → r < b → HandOk h' → k (.dat (.int r)) h'
  | _ => False
theorem mono__law_draw : Mono S__law_draw := mono_han fun l ds k k' hk hp => by
  split at hp
  · exact ⟨hp.1, hp.2.1, hp.2.2.1, fun r h' a b c => hk _ _ (hp.2.2.2 r h' a b c)⟩
  · exact hp.elim
def w__law_draw : WS := wSeq (wIfS (wAndT (wTv (wBin gEqA (wBin gAt (wN 0) (wD (.int 2))) (wD (.int 0)))) (wTv (wBin gLt (wBin gAt (wN 0) (wD (.int 1))) (wCB gLen (waC (wBin gAt (wN 0) (wD (.int 0))) (waN)))))) (wSeq (wAsg (wBin gAt (wBin gAt (wN 0) (wD (.int 0))) (wBin gAt (wN 0) (wD (.int 1)))) (stN 2)) (wSeq (wAsg (wBin gAdd (wBin gAt (wN 0) (wD (.int 1))) (wD (.int 1))) (stSub (wN 0) (wD (.int 1)))) (wSeq (wAsg (wBin gMod (wCB gInt (waC (wBin gAdd (wBin gAdd (wBin gMul (wBin gAt (wN 0) (wD (.int 3))) (wD (.int 69621))) (wBin gMul (wN 2) (wD (.int 48271)))) (wD (.int 17))) (waN))) (wD (.int 2147483629))) (stSub (wN 0) (wD (.int 3)))) (wIfS (wTv (wBin gGe (wN 2) (wBin gPow (wD (.int 10)) (wD (.int 18))))) (wAsg (wN 2) (stSub (wN 0) (wD (.int 2)))) (wNil))))) (wNil)) (wSeq (wIfS (wTv (wBin gGt (wBin gAt (wN 0) (wD (.int 2))) (wD (.int 0)))) (wSeq (wAsg (wBin gMod (wCB gInt (waC (wBin gAt (wN 0) (wD (.int 2))) (waN))) (wN 1)) (stN 3)) (wSeq (wAsg (wBin gDiv (wBin gAt (wN 0) (wD (.int 2))) (wN 1)) (stSub (wN 0) (wD (.int 2)))) (wRet (wN 3)))) (wNil)) (wSeq (wAsg (wBin gAdd (wBin gAt (wN 0) (wD (.int 4))) (wD (.int 1))) (stSub (wN 0) (wD (.int 4)))) (wSeq (wAsg (wBin gMod (wCB gInt (waC (wBin gMul (wCB gInt (waC (wBin gAdd (wBin gAt (wN 0) (wD (.int 3))) (wBin gMul (wD (.int 7919)) (wBin gAt (wN 0) (wD (.int 4))))) (waN))) (wD (.int 40692))) (waN))) (wD (.int 2147483647))) (stN 4)) (wSeq (wAsg (wBin gMod (wCB gInt (waC (wBin gMul (wN 4) (wBin gAdd (wBin gDiv (wN 4) (wD (.int 1009))) (wD (.int 69621)))) (waN))) (wD (.int 2147483647))) (stN 4)) (wSeq (wAsg (wBin gMod (wCB gInt (waC (wBin gMul (wN 4) (wBin gAdd (wBin gDiv (wN 4) (wD (.int 2003))) (wD (.int 40014)))) (waN))) (wD (.int 2147483563))) (stN 4)) (wRet (wBin gMod (wCB gInt (waC (wBin gDiv (wN 4) (wD (.int 16))) (waN))) (wN 1))))))))
def t__law_draw_1 : WS := wSeq (wIfS (wTv (wBin gGt (wBin gAt (wN 0) (wD (.int 2))) (wD (.int 0)))) (wSeq (wAsg (wBin gMod (wCB gInt (waC (wBin gAt (wN 0) (wD (.int 2))) (waN))) (wN 1)) (stN 3)) (wSeq (wAsg (wBin gDiv (wBin gAt (wN 0) (wD (.int 2))) (wN 1)) (stSub (wN 0) (wD (.int 2)))) (wRet (wN 3)))) (wNil)) (wSeq (wAsg (wBin gAdd (wBin gAt (wN 0) (wD (.int 4))) (wD (.int 1))) (stSub (wN 0) (wD (.int 4)))) (wSeq (wAsg (wBin gMod (wCB gInt (waC (wBin gMul (wCB gInt (waC (wBin gAdd (wBin gAt (wN 0) (wD (.int 3))) (wBin gMul (wD (.int 7919)) (wBin gAt (wN 0) (wD (.int 4))))) (waN))) (wD (.int 40692))) (waN))) (wD (.int 2147483647))) (stN 4)) (wSeq (wAsg (wBin gMod (wCB gInt (waC (wBin gMul (wN 4) (wBin gAdd (wBin gDiv (wN 4) (wD (.int 1009))) (wD (.int 69621)))) (waN))) (wD (.int 2147483647))) (stN 4)) (wSeq (wAsg (wBin gMod (wCB gInt (waC (wBin gMul (wN 4) (wBin gAdd (wBin gDiv (wN 4) (wD (.int 2003))) (wD (.int 40014)))) (waN))) (wD (.int 2147483563))) (stN 4)) (wRet (wBin gMod (wCB gInt (waC (wBin gDiv (wN 4) (wD (.int 16))) (waN))) (wN 1)))))))
def t__law_draw_2 : WS := wSeq (wAsg (wBin gAdd (wBin gAt (wN 0) (wD (.int 4))) (wD (.int 1))) (stSub (wN 0) (wD (.int 4)))) (wSeq (wAsg (wBin gMod (wCB gInt (waC (wBin gMul (wCB gInt (waC (wBin gAdd (wBin gAt (wN 0) (wD (.int 3))) (wBin gMul (wD (.int 7919)) (wBin gAt (wN 0) (wD (.int 4))))) (waN))) (wD (.int 40692))) (waN))) (wD (.int 2147483647))) (stN 4)) (wSeq (wAsg (wBin gMod (wCB gInt (waC (wBin gMul (wN 4) (wBin gAdd (wBin gDiv (wN 4) (wD (.int 1009))) (wD (.int 69621)))) (waN))) (wD (.int 2147483647))) (stN 4)) (wSeq (wAsg (wBin gMod (wCB gInt (waC (wBin gMul (wN 4) (wBin gAdd (wBin gDiv (wN 4) (wD (.int 2003))) (wD (.int 40014)))) (waN))) (wD (.int 2147483563))) (stN 4)) (wRet (wBin gMod (wCB gInt (waC (wBin gDiv (wN 4) (wD (.int 16))) (waN))) (wN 1))))))
def t__law_draw_3 : WS := wSeq (wAsg (wBin gMod (wCB gInt (waC (wBin gMul (wCB gInt (waC (wBin gAdd (wBin gAt (wN 0) (wD (.int 3))) (wBin gMul (wD (.int 7919)) (wBin gAt (wN 0) (wD (.int 4))))) (waN))) (wD (.int 40692))) (waN))) (wD (.int 2147483647))) (stN 4)) (wSeq (wAsg (wBin gMod (wCB gInt (waC (wBin gMul (wN 4) (wBin gAdd (wBin gDiv (wN 4) (wD (.int 1009))) (wD (.int 69621)))) (waN))) (wD (.int 2147483647))) (stN 4)) (wSeq (wAsg (wBin gMod (wCB gInt (waC (wBin gMul (wN 4) (wBin gAdd (wBin gDiv (wN 4) (wD (.int 2003))) (wD (.int 40014)))) (waN))) (wD (.int 2147483563))) (stN 4)) (wRet (wBin gMod (wCB gInt (waC (wBin gDiv (wN 4) (wD (.int 16))) (waN))) (wN 1)))))
def t__law_draw_4 : WS := wSeq (wAsg (wBin gMod (wCB gInt (waC (wBin gMul (wN 4) (wBin gAdd (wBin gDiv (wN 4) (wD (.int 1009))) (wD (.int 69621)))) (waN))) (wD (.int 2147483647))) (stN 4)) (wSeq (wAsg (wBin gMod (wCB gInt (waC (wBin gMul (wN 4) (wBin gAdd (wBin gDiv (wN 4) (wD (.int 2003))) (wD (.int 40014)))) (waN))) (wD (.int 2147483563))) (stN 4)) (wRet (wBin gMod (wCB gInt (waC (wBin gDiv (wN 4) (wD (.int 16))) (waN))) (wN 1))))
def t__law_draw_5 : WS := wSeq (wAsg (wBin gMod (wCB gInt (waC (wBin gMul (wN 4) (wBin gAdd (wBin gDiv (wN 4) (wD (.int 2003))) (wD (.int 40014)))) (waN))) (wD (.int 2147483563))) (stN 4)) (wRet (wBin gMod (wCB gInt (waC (wBin gDiv (wN 4) (wD (.int 16))) (waN))) (wN 1)))
def t__law_draw_6 : WS := wRet (wBin gMod (wCB gInt (waC (wBin gDiv (wN 4) (wD (.int 16))) (waN))) (wN 1))
theorem vc__law_draw : ∀ as rs Qd, ArRs as rs → rs.length = 2 → S__law_draw as Qd → w__law_draw (fin rs Qd) (gm0 5 rs) := vc_han fun a h ds k hn hp => by
  split at hp; rotate_left; exact hp.elim
  rename_i b
  obtain ⟨⟨cs, at0, big0, mix0, cnt0, rfl, h1, h2, h3, h4⟩, hb, hb2, q⟩ := hp
  -- behind the first statement
  have tail : ∀ (at' big mix cnt : Int) (y : Option R), 0 ≤ at' → 0 ≤ big → t__law_draw_1 (finH a k) [some (.lst true a [.lst (cs.map D.int), .int at', .int big, .int mix, .int cnt]), some (.dat (.int b)), y, none, none] := fun at' big mix cnt y h1 h2 => by
    repeat (first | (refine And.intro rfl ?_) | (refine And.intro True.intro ?_) | (refine And.intro ⟨rfl, rfl⟩ ?_) | (refine And.intro ⟨rfl, True.intro⟩ ?_) | (refine And.intro (by first | assumption | omega | exact .inr (.inl (fm_small _ (by decide) (by decide))) | (simp [put, wipeG]; done) | (simp [put, wipeG]; omega)) ?_) | (intro _))
    conv => whnf
    by_cases hB : 0 < big
    · simp only [hB, decide_true]
      repeat (first | (refine And.intro rfl ?_) | (refine And.intro True.intro ?_) | (refine And.intro ⟨rfl, rfl⟩ ?_) | (refine And.intro ⟨rfl, True.intro⟩ ?_) | (refine And.intro (by first | assumption | omega | exact .inr (.inl (fm_small _ (by decide) (by decide))) | (simp [put, wipeG]; done) | (simp [put, wipeG]; omega)) ?_) | (intro _))
      refine q _ _ (fm_bound _ hb).1 (fm_bound _ hb).2 ⟨cs, at', _, mix, cnt, rfl, h1, ?_, h3, h4⟩
      exact Int.fdiv_nonneg h2 (Int.le_of_lt hb)
    · simp only [hB, decide_false]
      repeat (first | (refine And.intro rfl ?_) | (refine And.intro True.intro ?_) | (refine And.intro ⟨rfl, rfl⟩ ?_) | (refine And.intro ⟨rfl, True.intro⟩ ?_) | (refine And.intro (by first | assumption | omega | exact .inr (.inl (fm_small _ (by decide) (by decide))) | (simp [put, wipeG]; done) | (simp [put, wipeG]; omega)) ?_) | (intro _))
      exact q _ _ (fm_bound _ hb).1 (fm_bound _ hb).2 ⟨cs, at', big, mix, _, rfl, h1, h2, h3, h4⟩
  show w__law_draw (finH a k) [some (.lst true a [.lst (cs.map D.int), .int at0, .int big0, .int mix0, .int cnt0]), some (.dat (.int b)), none, none, none]
  repeat (first | (refine And.intro rfl ?_) | (refine And.intro True.intro ?_) | (refine And.intro ⟨rfl, rfl⟩ ?_) | (refine And.intro ⟨rfl, True.intro⟩ ?_) | (refine And.intro (by first | assumption | omega | exact .inr (.inl (fm_small _ (by decide) (by decide))) | (simp [put, wipeG]; done) | (simp [put, wipeG]; omega)) ?_) | (intro _))
  conv => whnf
  by_cases hA : big0 = 0
  · simp only [ne_int, hA, decide_true]
    conv => whnf
    repeat (first | (refine And.intro rfl ?_) | (refine And.intro True.intro ?_) | (refine And.intro ⟨rfl, rfl⟩ ?_) | (refine And.intro ⟨rfl, True.intro⟩ ?_) | (refine And.intro (by first | assumption | omega | exact .inr (.inl (fm_small _ (by decide) (by decide))) | (simp [put, wipeG]; done) | (simp [put, wipeG]; omega)) ?_) | (intro _))
    conv => whnf
    by_cases hB : at0 < ((cs.map D.int).length : Int)
    · simp only [hB, decide_true]
      have hlt : at0.toNat < cs.length := by
        rw [List.length_map] at hB
        omega
      have hx : ixD (cs.map D.int) at0 = some (.int cs[at0.toNat]) := by
        unfold ixD
        rw [if_pos h1, List.getElem?_map, List.getElem?_eq_getElem hlt]
        rfl
      have hc : 0 ≤ cs[at0.toNat] := h3 _ (List.getElem_mem hlt)
      generalize cs[at0.toNat] = c at hx hc
      repeat (first | (refine And.intro rfl ?_) | (refine And.intro True.intro ?_) | (refine And.intro ⟨rfl, rfl⟩ ?_) | (refine And.intro ⟨rfl, True.intro⟩ ?_) | (refine And.intro (by first | assumption | omega | exact .inr (.inl (fm_small _ (by decide) (by decide))) | (simp [put, wipeG]; done) | (simp [put, wipeG]; omega)) ?_) | (intro _))
      conv => whnf
      simp only [hx]
      repeat (first | (refine And.intro rfl ?_) | (refine And.intro True.intro ?_) | (refine And.intro ⟨rfl, rfl⟩ ?_) | (refine And.intro ⟨rfl, True.intro⟩ ?_) | (refine And.intro (by first | assumption | omega | exact .inr (.inl (fm_small _ (by decide) (by decide))) | (simp [put, wipeG]; done) | (simp [put, wipeG]; omega)) ?_) | (intro _))
      conv => whnf
      cases decide (10 ^ Int.toNat 18 ≤ c) with
      | true =>
        repeat (first | (refine And.intro rfl ?_) | (refine And.intro True.intro ?_) | (refine And.intro ⟨rfl, rfl⟩ ?_) | (refine And.intro ⟨rfl, True.intro⟩ ?_) | (refine And.intro (by first | assumption | omega | exact .inr (.inl (fm_small _ (by decide) (by decide))) | (simp [put, wipeG]; done) | (simp [put, wipeG]; omega)) ?_) | (intro _))
        exact And.right (tail (at0 + 1) c _ cnt0 (some (.dat (.int c))) (by omega) hc)
      | false => exact tail (at0 + 1) 0 _ cnt0 (some (.dat (.int c))) (by omega) (by decide)
    · simp only [hB, decide_false]
      exact tail _ _ _ _ _ h1 (by decide)
  · simp only [ne_int, hA, decide_false]
    exact tail _ _ _ _ _ h1 h2
theorem ok__law_draw (E : Fx K mg) : FnG P w K mg base CX0 1 E.f__law_draw E.d__law_draw ["hand", "many"] (spOf K 2 S__law_draw) := fn_data E.F__law_draw sc__law_draw (wb := w__law_draw) (fun c hK cdv A outer s H Ex hr hgd => by
  subst hK
  have hu1 := hu_of hr
  have hu0 := Nat.lt_of_succ_lt hu1
  have hr65 := unit65 hr
  have sc := sc__law_draw
  exact psd_cons (psd_if (L2.PW.pt (pwd_and (ptd_cmp (ok_eqA hr.units) (pd_sub hu1 (pd_n 0) (pd_int)) (pd_int)) (pwd_and1 (ptd_cmp ok_lt (pd_sub hu1 (pd_n 0) (pd_int)) (pd_callB ok_len E.z_len (by decide +kernel) (pda_cons (pd_sub hu1 (pd_n 0) (pd_int)) (pda_nil))))))) (psd_cons (psd_set (i := 2) sc.nd (pd_sub hu1 (pd_sub hu1 (pd_n 0) (pd_int)) (pd_sub hu1 (pd_n 0) (pd_int)))) (psd_cons (psd_asg (pd_bin ok_add (pd_sub hu1 (pd_n 0) (pd_int)) (pd_int)) (pgd_sub hu1 (pd_n 0) (pd_int))) (psd_cons (psd_asg (pd_bin ok_mod (pd_callT ok_int E.z_int (by decide +kernel) (pda_cons (pd_bin ok_add (pd_bin ok_add (pd_bin ok_mul (pd_sub hu1 (pd_n 0) (pd_int)) (pd_int)) (pd_bin ok_mul (pd_n 2) (pd_int))) (pd_int)) (pda_nil))) (pd_int)) (pgd_sub hu1 (pd_n 0) (pd_int))) (psd_one (psd_if (ptd_cmp ok_ge (pd_n 2) (pd_bin ok_pow (pd_int) (pd_int))) (psd_one (psd_asg (pd_n 2) (pgd_sub hu1 (pd_n 0) (pd_int)))) (psd_nil)))))) (psd_nil)) (psd_cons (psd_if (ptd_cmp ok_gt (pd_sub hu1 (pd_n 0) (pd_int)) (pd_int)) (psd_cons (psd_set (i := 3) sc.nd (pd_bin ok_mod (pd_callT ok_int E.z_int (by decide +kernel) (pda_cons (pd_sub hu1 (pd_n 0) (pd_int)) (pda_nil))) (pd_n 1))) (psd_cons (psd_asg (pd_bin ok_div (pd_sub hu1 (pd_n 0) (pd_int)) (pd_n 1)) (pgd_sub hu1 (pd_n 0) (pd_int))) (psd_one (psd_ret (pd_n 3))))) (psd_nil)) (psd_cons (psd_asg (pd_bin ok_add (pd_sub hu1 (pd_n 0) (pd_int)) (pd_int)) (pgd_sub hu1 (pd_n 0) (pd_int))) (psd_cons (psd_set (i := 4) sc.nd (pd_bin ok_mod (pd_callT ok_int E.z_int (by decide +kernel) (pda_cons (pd_bin ok_mul (pd_callT ok_int E.z_int (by decide +kernel) (pda_cons (pd_bin ok_add (pd_sub hu1 (pd_n 0) (pd_int)) (pd_bin ok_mul (pd_int) (pd_sub hu1 (pd_n 0) (pd_int)))) (pda_nil))) (pd_int)) (pda_nil))) (pd_int))) (psd_cons (psd_set (i := 4) sc.nd (pd_bin ok_mod (pd_callT ok_int E.z_int (by decide +kernel) (pda_cons (pd_bin ok_mul (pd_n 4) (pd_bin ok_add (pd_bin ok_div (pd_n 4) (pd_int)) (pd_int))) (pda_nil))) (pd_int))) (psd_cons (psd_set (i := 4) sc.nd (pd_bin ok_mod (pd_callT ok_int E.z_int (by decide +kernel) (pda_cons (pd_bin ok_mul (pd_n 4) (pd_bin ok_add (pd_bin ok_div (pd_n 4) (pd_int)) (pd_int))) (pda_nil))) (pd_int))) (psd_one (psd_ret (pd_bin ok_mod (pd_callT ok_int E.z_int (by decide +kernel) (pda_cons (pd_bin ok_div (pd_n 4) (pd_int)) (pda_nil))) (pd_n 1)))))))))) vc__law_draw
theorem ixD_in {α : Type} {l : List α} {r : Int} (h0 : 0 ≤ r) (h : r < l.length) : ∃ x, ixD l r = some x ∧ x ∈ l := by
  have hlt : r.toNat < l.length := by omega
  refine ⟨l[r.toNat], ?_, List.getElem_mem hlt⟩
  unfold ixD
  rw [if_pos h0, List.getElem?_eq_getElem hlt]
def S__law_any : Dl.Spec := hanS fun h ds k => match ds with
  | [.lst l] => HandOk h ∧ l ≠ [] ∧ l.length ≤ 1000000 ∧ ∀ x ∈ l, ∀ h', HandOk h' → k (.dat x) h'
  | [.tup l] => HandOk h ∧ l ≠ [] ∧ l.length ≤ 1000000 ∧ ∀ x ∈ l, ∀ h', HandOk h' → k (.dat x) h'
  | _ => False
theorem mono__law_any : Mono S__law_any := mono_han fun l ds k k' hk hp => by
  split at hp
  · exact ⟨hp.1, hp.2.1, hp.2.2.1, fun x hx h' a => hk _ _ (hp.2.2.2 x hx h' a)⟩
  · exact ⟨hp.1, hp.2.1, hp.2.2.1, fun x hx h' a => hk _ _ (hp.2.2.2 x hx h' a)⟩
  · exact hp.elim
def w__law_any : WS := wRet (wBin gAt (wN 1) (wCallL 2 S__law_draw (waC (wN 0) (waC (wCB gLen (waC (wN 1) (waN))) (waN)))))
theorem vc__law_any : ∀ as rs Qd, ArRs as rs → rs.length = 2 → S__law_any as Qd → w__law_any (fin rs Qd) (gm0 2 rs) := vc_han fun a h ds k hn hp => by
  have pos : ∀ {l : List D}, l ≠ [] → 0 < (l.length : Int) := fun h => by
    have := List.length_pos_iff.mpr h
    omega
  split at hp
  · rename_i l
    obtain ⟨hh, hl, hs, q⟩ := hp
    show w__law_any (finH a k) [some (.lst true a h), some (.dat (.lst l))]
    repeat (first | (refine And.intro rfl ?_) | (refine And.intro True.intro ?_) | (refine And.intro ⟨rfl, rfl⟩ ?_) | (refine And.intro ⟨rfl, True.intro⟩ ?_) | (refine And.intro (by first | assumption | omega | exact .inr (.inl (fm_small _ (by decide) (by decide))) | (simp [put, wipeG]; done) | (simp [put, wipeG]; omega)) ?_) | (intro _))
    refine ⟨h, [.int l.length], rfl, hh, pos hl, by omega, fun r h' h1 h2 hh' => ?_⟩
    obtain ⟨x, hx, hm⟩ := ixD_in h1 h2
    conv => whnf
    simp only [hx]
    repeat (first | (refine And.intro rfl ?_) | (refine And.intro True.intro ?_) | (refine And.intro ⟨rfl, rfl⟩ ?_) | (refine And.intro ⟨rfl, True.intro⟩ ?_) | (refine And.intro (by first | assumption | omega | exact .inr (.inl (fm_small _ (by decide) (by decide))) | (simp [put, wipeG]; done) | (simp [put, wipeG]; omega)) ?_) | (intro _))
    exact q x hm h' hh'
  · rename_i l
    obtain ⟨hh, hl, hs, q⟩ := hp
    show w__law_any (finH a k) [some (.lst true a h), some (.dat (.tup l))]
    repeat (first | (refine And.intro rfl ?_) | (refine And.intro True.intro ?_) | (refine And.intro ⟨rfl, rfl⟩ ?_) | (refine And.intro ⟨rfl, True.intro⟩ ?_) | (refine And.intro (by first | assumption | omega | exact .inr (.inl (fm_small _ (by decide) (by decide))) | (simp [put, wipeG]; done) | (simp [put, wipeG]; omega)) ?_) | (intro _))
    refine ⟨h, [.int l.length], rfl, hh, pos hl, by omega, fun r h' h1 h2 hh' => ?_⟩
    obtain ⟨x, hx, hm⟩ := ixD_in h1 h2
    conv => whnf
    simp only [hx]
    repeat (first | (refine And.intro rfl ?_) | (refine And.intro True.intro ?_) | (refine And.intro ⟨rfl, rfl⟩ ?_) | (refine And.intro ⟨rfl, True.intro⟩ ?_) | (refine And.intro (by first | assumption | omega | exact .inr (.inl (fm_small _ (by decide) (by decide))) | (simp [put, wipeG]; done) | (simp [put, wipeG]; omega)) ?_) | (intro _))
    exact q x hm h' hh'
  · exact hp.elim
theorem ok__law_any (E : Fx K mg) : FnG P w K mg base CX0 2 E.f__law_any E.d__law_any ["hand", "some"] (spOf K 2 S__law_any) := fn_data E.F__law_any sc__law_any (wb := w__law_any) (fun c hK cdv A outer s H Ex hr hgd => by
  subst hK
  have hu1 := hu_of hr
  have hu0 := Nat.lt_of_succ_lt hu1
  have hr65 := unit65 hr
  have sc := sc__law_any
  exact psd_one (psd_ret (pd_sub hu1 (pd_n 1) (pd_callL (ok__law_draw E) rfl mono__law_draw (hr.mono (by decide)) hgd E.g__law_draw E.F__law_draw.kp E.b__law_draw (pda_cons (pd_n 0) (pda_cons (pd_callB ok_len E.z_len (by decide +kernel) (pda_cons (pd_n 1) (pda_nil))) (pda_nil))))))) vc__law_any
def S__law_mixed : Dl.Spec := hanS fun h ds k => match ds with
  | [.lst l] => HandOk h ∧ l.length ≤ 10000 ∧ ∀ ys h', ys.Perm l → HandOk h' → k (.lst ys) h'
  | [.tup l] => HandOk h ∧ l.length ≤ 10000 ∧ ∀ ys h', ys.Perm l → HandOk h' → k (.lst ys) h'
  | _ => False
theorem mono__law_mixed : Mono S__law_mixed := mono_han fun l ds k k' hk hp => by
  split at hp
  · exact ⟨hp.1, hp.2.1, fun x h' a b => hk _ _ (hp.2.2 x h' a b)⟩
  · exact ⟨hp.1, hp.2.1, fun x h' a b => hk _ _ (hp.2.2 x h' a b)⟩
  · exact hp.elim
def w__law_mixed : WS := wSeq (wPar 2 3 (wCB gList (waC (wN 1) (waN))) (wLst (waN))) (wSeq (wWhile (wTv (wBin gGt (wCB gLen (waC (wN 2) (waN))) (wD (.int 0)))) (wDrop (wMut mAppend 3 (waC (wMut mPop 2 (waC (wCallL 2 S__law_draw (waC (wN 0) (waC (wCB gLen (waC (wN 2) (waN))) (waN)))) (waN))) (waN))))) (wRet (wN 3)))
def t__law_mixed_1 : WS := wSeq (wWhile (wTv (wBin gGt (wCB gLen (waC (wN 2) (waN))) (wD (.int 0)))) (wDrop (wMut mAppend 3 (waC (wMut mPop 2 (waC (wCallL 2 S__law_draw (waC (wN 0) (waC (wCB gLen (waC (wN 2) (waN))) (waN)))) (waN))) (waN))))) (wRet (wN 3))
def t__law_mixed_2 : WS := wRet (wN 3)
theorem perm_pop {α : Type} {found left l : List α} {i : Nat} {x : α} (h : left[i]? = some x) (hp : (found ++ left).Perm l) : ((found ++ [x]) ++ left.eraseIdx i).Perm l := by
  obtain ⟨hlt, e⟩ := List.getElem?_eq_some_iff.mp h
  have z : (x :: left.eraseIdx i).Perm left := by
    have e1 : left.eraseIdx i = left.take i ++ left.drop (i + 1) := List.eraseIdx_eq_take_drop_succ ..
    have e2 : left = left.take i ++ x :: left.drop (i + 1) := by
      conv => lhs; rw [← List.take_append_drop i left, List.drop_eq_getElem_cons hlt, e]
    rw [e1]
    conv => rhs; rw [e2]
    exact List.perm_middle.symm
  rw [List.append_assoc]
  exact (List.Perm.append_left found z).trans hp
theorem mixed_loop (a a1 a2 : Addr) (h : List D) (t : R) (l : List D) (k : Ar → List D → Prop) (hh : HandOk h) (hl : l.length ≤ 10000) (q : ∀ ys h', ys.Perm l → HandOk h' → k (.lst ys) h') :
    t__law_mixed_1 (finH a k) [some (.lst true a h), some t, some (.lst false a1 l), some (.lst false a2 [])] := by
  refine while_rule (fun n Γ => ∃ h left found, Γ = [some (.lst true a h), some t, some (.lst false a1 left), some (.lst false a2 found)] ∧ n = left.length ∧ HandOk h ∧ (found ++ left).Perm l) (fun n Γ K hI hK => ?_) l.length _ ⟨h, l, [], rfl, rfl, hh, List.Perm.refl _⟩
  obtain ⟨h, left, found, rfl, rfl, hh, hp⟩ := hI
  have hlen := hp.length_eq
  rw [List.length_append] at hlen
  repeat (first | (refine And.intro rfl ?_) | (refine And.intro True.intro ?_) | (refine And.intro ⟨rfl, rfl⟩ ?_) | (refine And.intro ⟨rfl, True.intro⟩ ?_) | (refine And.intro (by first | assumption | omega | exact .inr (.inl (fm_small _ (by decide) (by decide))) | (simp [put, wipeG]; done) | (simp [put, wipeG]; omega)) ?_) | (intro _))
  conv => whnf
  by_cases hB : (0 : Int) < left.length
  · simp only [hB, decide_true]
    repeat (first | (refine And.intro rfl ?_) | (refine And.intro True.intro ?_) | (refine And.intro ⟨rfl, rfl⟩ ?_) | (refine And.intro ⟨rfl, True.intro⟩ ?_) | (refine And.intro (by first | assumption | omega | exact .inr (.inl (fm_small _ (by decide) (by decide))) | (simp [put, wipeG]; done) | (simp [put, wipeG]; omega)) ?_) | (intro _))
    refine ⟨h, [.int left.length], rfl, hh, hB, by omega, fun r h' h1 h2 hh' => ?_⟩
    have hlt : r.toNat < left.length := by omega
    have hx : left[r.toNat]? = some left[r.toNat] := List.getElem?_eq_getElem hlt
    generalize left[r.toNat] = x at hx
    repeat (first | (refine And.intro rfl ?_) | (refine And.intro True.intro ?_) | (refine And.intro ⟨rfl, rfl⟩ ?_) | (refine And.intro ⟨rfl, True.intro⟩ ?_) | (refine And.intro (by first | assumption | omega | exact .inr (.inl (fm_small _ (by decide) (by decide))) | (simp [put, wipeG]; done) | (simp [put, wipeG]; omega)) ?_) | (intro _))
    conv => whnf
    simp only [hx]
    repeat (first | (refine And.intro rfl ?_) | (refine And.intro True.intro ?_) | (refine And.intro ⟨rfl, rfl⟩ ?_) | (refine And.intro ⟨rfl, True.intro⟩ ?_) | (refine And.intro (by first | assumption | omega | exact .inr (.inl (fm_small _ (by decide) (by decide))) | (simp [put, wipeG]; done) | (simp [put, wipeG]; omega)) ?_) | (intro _))
    refine hK (left.eraseIdx r.toNat).length _ ?_ ⟨h', left.eraseIdx r.toNat, found ++ [x], rfl, rfl, hh', perm_pop hx hp⟩
    rw [List.length_eraseIdx_of_lt hlt]
    omega
  · simp only [hB, decide_false]
    have e : left = [] := List.length_eq_zero_iff.mp (by omega)
    subst e
    repeat (first | (refine And.intro rfl ?_) | (refine And.intro True.intro ?_) | (refine And.intro ⟨rfl, rfl⟩ ?_) | (refine And.intro ⟨rfl, True.intro⟩ ?_) | (refine And.intro (by first | assumption | omega | exact .inr (.inl (fm_small _ (by decide) (by decide))) | (simp [put, wipeG]; done) | (simp [put, wipeG]; omega)) ?_) | (intro _))
    refine q found h ?_ hh
    rw [List.append_nil] at hp
    exact hp
theorem vc__law_mixed : ∀ as rs Qd, ArRs as rs → rs.length = 2 → S__law_mixed as Qd → w__law_mixed (fin rs Qd) (gm0 4 rs) := vc_han fun a h ds k hn hp => by
  split at hp
  · rename_i l
    obtain ⟨hh, hl, q⟩ := hp
    show w__law_mixed (finH a k) [some (.lst true a h), some (.dat (.lst l)), none, none]
    repeat (first | (refine And.intro rfl ?_) | (refine And.intro True.intro ?_) | (refine And.intro ⟨rfl, rfl⟩ ?_) | (refine And.intro ⟨rfl, True.intro⟩ ?_) | (refine And.intro (by first | assumption | omega | exact .inr (.inl (fm_small _ (by decide) (by decide))) | (simp [put, wipeG]; done) | (simp [put, wipeG]; omega)) ?_) | (intro _))
    exact mixed_loop a _ _ h _ l k hh hl q
  · rename_i l
    obtain ⟨hh, hl, q⟩ := hp
    show w__law_mixed (finH a k) [some (.lst true a h), some (.dat (.tup l)), none, none]
    repeat (first | (refine And.intro rfl ?_) | (refine And.intro True.intro ?_) | (refine And.intro ⟨rfl, rfl⟩ ?_) | (refine And.intro ⟨rfl, True.intro⟩ ?_) | (refine And.intro (by first | assumption | omega | exact .inr (.inl (fm_small _ (by decide) (by decide))) | (simp [put, wipeG]; done) | (simp [put, wipeG]; omega)) ?_) | (intro _))
    exact mixed_loop a _ _ h _ l k hh hl q
  · exact hp.elim
theorem ok__law_mixed (E : Fx K mg) : FnG P w K mg base CX0 2 E.f__law_mixed E.d__law_mixed ["hand", "things"] (spOf K 2 S__law_mixed) := fn_data E.F__law_mixed sc__law_mixed (wb := w__law_mixed) (fun c hK cdv A outer s H Ex hr hgd => by
  subst hK
  have hu1 := hu_of hr
  have hu0 := Nat.lt_of_succ_lt hu1
  have hr65 := unit65 hr
  have sc := sc__law_mixed
  exact psd_cons (psd_par (i := 2) (j := 3) rfl sc.nd (pd_callT ok_list E.z_list (by decide +kernel) (pda_cons (pd_n 1) (pda_nil))) (pd_lst (pda_nil))) (psd_cons (psd_while PassesOwn.never (ptd_cmp ok_gt (pd_callB ok_len E.z_len (by decide +kernel) (pda_cons (pd_n 2) (pda_nil))) (pd_int)) (psd_one (psd_expr ((pd_mt (i := 3) ok_append PySem.F.plainAttrs_list PySem.F.slot_list_append PySem.F.type_list_append rfl (by first | exact Or.inl rfl | exact Or.inr (Or.inl rfl) | exact Or.inr (Or.inr rfl)) (pda_cons ((pd_mt (i := 2) ok_pop PySem.F.plainAttrs_list PySem.F.slot_list_pop PySem.F.type_list_pop rfl (by first | exact Or.inl rfl | exact Or.inr (Or.inl rfl) | exact Or.inr (Or.inr rfl)) (pda_cons (pd_callL (ok__law_draw E) rfl mono__law_draw (hr.mono (by decide)) hgd E.g__law_draw E.F__law_draw.kp E.b__law_draw (pda_cons (pd_n 0) (pda_cons (pd_callB ok_len E.z_len (by decide +kernel) (pda_cons (pd_n 2) (pda_nil))) (pda_nil)))) (pda_nil)))) (pda_nil))))))) (psd_one (psd_ret (pd_n 3))))) vc__law_mixed
end
end Kd
end Dl
namespace Dl
namespace Kd
open PySem PySem.Spec PyProof.Rows
open L2
section
variable {P : Program} {w : World} {K : PySem.W.Frag} {mg : Str → Option Value} {base : Heap}
/-! ### alike, kind by kind -/
def leafD : D → Bool
  | .non => true
  | .bl _ => true
  | .int _ => true
  | .str s => PyData.strOk s
  | _ => false
/-- nested at most n deep, of leaves -/
def nest : Nat → D → Prop
  | n + 1, .tup l => l.length ≤ 1000000 ∧ ∀ d ∈ l, nest n d
  | n + 1, .lst l => l.length ≤ 1000000 ∧ ∀ d ∈ l, nest n d
  | _, d => leafD d = true
theorem nest_leaf {d : D} (h : leafD d = true) : ∀ n, nest n d := by
  intro n
  cases n with
  | zero => exact h
  | succ n => cases d <;> first | exact h | exact absurd h Bool.false_ne_true
def S__law_same (n : Nat) : Dl.Spec := datS fun ds k => match ds with
  | [x, y] => x = y ∧ nest n x ∧ k (.dat (.bl true))
  | _ => False
def w__law_same (R : WA → W) : WS := wSeq (wIfS (wOrT (wTv (wIsi "tuple" (wN 1))) (wTv (wIsi "list" (wN 1)))) (wSeq (wIfS (wOrT (wTv (wBin gNeA (wIsi "tuple" (wN 0)) (wIsi "tuple" (wN 1)))) (wTv (wBin gNeA (wIsi "list" (wN 0)) (wIsi "list" (wN 1))))) (wRet (wD (.bl false))) (wNil)) (wRet (wAndV (wBin gEqA (wCB gLen (waC (wN 0) (waN))) (wCB gLen (waC (wN 1) (waN)))) (wCB gAll (waC (wLc [2, 3] (wiZip (waC (wN 0) (waC (wN 1) (waN)))) (stTup 2 (stCons (stN 2) (stCons (stN 3) (stNil)))) (wYes) (R (waC (wN 2) (waC (wN 3) (waN))))) (waN)))))) (wNil)) (wSeq (wIfS (wOrT (wTv (wBin gNeA (wIsi "bool" (wN 0)) (wIsi "bool" (wN 1)))) (wTv (wBin gNeA (wBin gIs (wN 0) (wD .non)) (wBin gIs (wN 1) (wD .non))))) (wRet (wD (.bl false))) (wNil)) (wRet (wAndV (wBin gEqA (wIsi "int" (wN 0)) (wIsi "int" (wN 1))) (wBin gEqA (wN 0) (wN 1)))))
def R__law_same : Nat → WA → W
  | 0 => fun _ => wNoE
  | n + 1 => wCall 2 (S__law_same n)
theorem all_true {α : Type} (l : List α) : bls (l.map fun _ => D.bl true) = some (l.map fun _ => true) := by
  induction l with
  | nil => rfl
  | cons a l ih => simp only [List.map_cons, bls, ih, Option.map_some]
theorem all_true' {α : Type} (l : List α) : (l.map fun _ => true).all id = true := by simp
theorem zip_self {l : List D} {d : D} (h : d ∈ zipD l l) : ∃ x ∈ l, d = .tup [x, x] := by
  obtain ⟨i, hi⟩ := List.mem_iff_getElem?.mp h
  obtain ⟨x, y, h1, h2, rfl⟩ := zipD_get hi
  rw [h1] at h2
  cases h2
  exact ⟨x, List.mem_of_getElem? h1, rfl⟩
def yesD : D → D := fun _ => .bl true
theorem vc__law_same : ∀ n as rs Qd, ArRs as rs → rs.length = 2 → S__law_same n as Qd → w__law_same (R__law_same n) (fin rs Qd) (gm0 4 rs) := fun n => vc_dat fun ds k hn hp => by
  split at hp; rotate_left; exact hp.elim
  rename_i x y
  obtain ⟨rfl, hx, q⟩ := hp
  show w__law_same (R__law_same n) (finD k) [some (.dat x), some (.dat x), none, none]
  have leaf : leafD x = true → w__law_same (R__law_same n) (finD k) [some (.dat x), some (.dat x), none, none] := fun h => by
    cases x with
    | non =>
      simp only [w__law_same]
      repeat (first | (refine And.intro rfl ?_) | (refine And.intro True.intro ?_) | (refine And.intro ⟨rfl, rfl⟩ ?_) | (refine And.intro ⟨rfl, True.intro⟩ ?_) | (refine And.intro (by first | assumption | omega | exact .inr (.inl (fm_small _ (by decide) (by decide))) | (simp [put, wipeG]; done) | (simp [put, wipeG]; omega)) ?_) | (intro _))
      conv => whnf
      exact q
    | bl b =>
      have e : eqD (.bl b) (.bl b) = true := by cases b <;> rfl
      simp only [w__law_same]
      repeat (first | (refine And.intro rfl ?_) | (refine And.intro True.intro ?_) | (refine And.intro ⟨rfl, rfl⟩ ?_) | (refine And.intro ⟨rfl, True.intro⟩ ?_) | (refine And.intro (by first | assumption | omega | exact .inr (.inl (fm_small _ (by decide) (by decide))) | (simp [put, wipeG]; done) | (simp [put, wipeG]; omega)) ?_) | (intro _))
      conv => whnf
      rw [e]
      exact q
    | int b =>
      simp only [w__law_same]
      repeat (first | (refine And.intro rfl ?_) | (refine And.intro True.intro ?_) | (refine And.intro ⟨rfl, rfl⟩ ?_) | (refine And.intro ⟨rfl, True.intro⟩ ?_) | (refine And.intro (by first | assumption | omega | exact .inr (.inl (fm_small _ (by decide) (by decide))) | (simp [put, wipeG]; done) | (simp [put, wipeG]; omega)) ?_) | (intro _))
      conv => whnf
      simp only [ne_int, decide_true]
      exact q
    | str s =>
      have sk : sh (.str s) 60 = true := h
      simp only [w__law_same]
      repeat (first | (refine And.intro rfl ?_) | (refine And.intro True.intro ?_) | (refine And.intro ⟨rfl, rfl⟩ ?_) | (refine And.intro ⟨rfl, True.intro⟩ ?_) | (refine And.intro (by first | assumption | omega | exact .inr (.inl (fm_small _ (by decide) (by decide))) | (simp [put, wipeG]; done) | (simp [put, wipeG]; omega)) ?_) | (intro _))
      conv => whnf
      rw [decide_eq_true rfl]
      exact q
    | _ => exact absurd h Bool.false_ne_true
  cases n with
  | zero => exact leaf hx
  | succ n =>
    have node : ∀ l : List D, l.length ≤ 1000000 → (∀ d ∈ l, nest n d) → ∀ d ∈ zipD l l, ∃ x, nest n x ∧ d = .tup [x, x] := fun l _ h d hd => by
      obtain ⟨x, hm, e⟩ := zip_self hd
      exact ⟨x, h x hm, e⟩
    have size : ∀ l : List D, l.length ≤ 1000000 → (zipD l l).length ≤ 1000000 := fun l h => by rw [zipD_len]; omega
    cases x with
    | tup l =>
      simp only [w__law_same]
      repeat (first | (refine And.intro rfl ?_) | (refine And.intro True.intro ?_) | (refine And.intro ⟨rfl, rfl⟩ ?_) | (refine And.intro ⟨rfl, True.intro⟩ ?_) | (refine And.intro (by first | assumption | omega | exact .inr (.inl (fm_small _ (by decide) (by decide))) | (simp [put, wipeG]; done) | (simp [put, wipeG]; omega)) ?_) | (intro _))
      conv => whnf
      simp only [ne_int, decide_true]
      conv => whnf
      refine lc_map yesD _ _ (size l hx.1) True.intro (fun d hd K hK => ?_) ?_
      · obtain ⟨x, hx, rfl⟩ := node l hx.1 hx.2 d hd
        conv => whnf
        repeat (first | (refine And.intro rfl ?_) | (refine And.intro True.intro ?_) | (refine And.intro ⟨rfl, rfl⟩ ?_) | (refine And.intro ⟨rfl, True.intro⟩ ?_) | (refine And.intro (by first | assumption | omega | exact .inr (.inl (fm_small _ (by decide) (by decide))) | (simp [put, wipeG]; done) | (simp [put, wipeG]; omega)) ?_) | (intro _))
        conv => whnf
        refine ⟨[x, x], rfl, rfl, hx, ?_⟩
        exact hK
      · intro a
        conv => whnf
        rw [show bls (List.map yesD (zipD l l)) = _ from all_true _]
        simp only [all_true']
        exact q
    | lst l =>
      simp only [w__law_same]
      repeat (first | (refine And.intro rfl ?_) | (refine And.intro True.intro ?_) | (refine And.intro ⟨rfl, rfl⟩ ?_) | (refine And.intro ⟨rfl, True.intro⟩ ?_) | (refine And.intro (by first | assumption | omega | exact .inr (.inl (fm_small _ (by decide) (by decide))) | (simp [put, wipeG]; done) | (simp [put, wipeG]; omega)) ?_) | (intro _))
      conv => whnf
      simp only [ne_int, decide_true]
      conv => whnf
      refine lc_map yesD _ _ (size l hx.1) True.intro (fun d hd K hK => ?_) ?_
      · obtain ⟨x, hx, rfl⟩ := node l hx.1 hx.2 d hd
        conv => whnf
        repeat (first | (refine And.intro rfl ?_) | (refine And.intro True.intro ?_) | (refine And.intro ⟨rfl, rfl⟩ ?_) | (refine And.intro ⟨rfl, True.intro⟩ ?_) | (refine And.intro (by first | assumption | omega | exact .inr (.inl (fm_small _ (by decide) (by decide))) | (simp [put, wipeG]; done) | (simp [put, wipeG]; omega)) ?_) | (intro _))
        conv => whnf
        refine ⟨[x, x], rfl, rfl, hx, ?_⟩
        exact hK
      · intro a
        conv => whnf
        rw [show bls (List.map yesD (zipD l l)) = _ from all_true _]
        simp only [all_true']
        exact q
    | _ => first | exact leaf hx
theorem ok__law_same_0 (E : Fx K mg) : FnG P w K mg base CX0 1 E.f__law_same E.d__law_same ["one", "due"] (spOf K 2 (S__law_same 0)) := fn_data E.F__law_same sc__law_same (wb := w__law_same (R__law_same 0)) (fun c hK cdv A outer s H Ex hr hgd => by
  subst hK
  have hu1 := hu_of hr
  have hu0 := Nat.lt_of_succ_lt hu1
  have hr65 := unit65 hr
  have sc := sc__law_same
  exact psd_cons (psd_if (L2.PW.pt (pwd_or (ptd_val (pd_isi (T := "tuple") (by decide) E.z_isinstance E.z_tuple (by decide +kernel) (pd_n 1))) (pwd_or1 (ptd_val (pd_isi (T := "list") (by decide) E.z_isinstance E.z_list (by decide +kernel) (pd_n 1)))))) (psd_cons (psd_if (L2.PW.pt (pwd_or (ptd_cmp (ok_neA hr.units) (pd_isi (T := "tuple") (by decide) E.z_isinstance E.z_tuple (by decide +kernel) (pd_n 0)) (pd_isi (T := "tuple") (by decide) E.z_isinstance E.z_tuple (by decide +kernel) (pd_n 1))) (pwd_or1 (ptd_cmp (ok_neA hr.units) (pd_isi (T := "list") (by decide) E.z_isinstance E.z_list (by decide +kernel) (pd_n 0)) (pd_isi (T := "list") (by decide) E.z_isinstance E.z_list (by decide +kernel) (pd_n 1)))))) (psd_one (psd_ret (pd_bl))) (psd_nil)) (psd_one (psd_ret (pd_and (pd_cmp (ok_eqA hr.units) (pd_callB ok_len E.z_len (by decide +kernel) (pda_cons (pd_n 0) (pda_nil))) (pd_callB ok_len E.z_len (by decide +kernel) (pda_cons (pd_n 1) (pda_nil)))) (pd_one (pd_callB (ok_all rfl) E.z_all (by decide +kernel) (pda_cons (pd_lc (own := [("a", 2), ("b", 3)]) (tgs := [2, 3]) rfl sc.nd (pid_zip E.z_zip (pda_cons (pd_n 0) (pda_cons (pd_n 1) (pda_nil)))) (by (show blkC ["one", "due", "a", "b"] (defScope s__law_same) _ _ = true); decide +kernel) (by decide) (fun _ _ _ _ _ => pgd_tup rfl (pgds_cons (pgd_n (i := 2) sc.nd) (pgds_cons (pgd_n (i := 3) sc.nd) (pgds_nil (tg := []))))) (fun _ _ _ _ _ => ptsd_nil) (fun _ _ _ _ _ => pd_noE)) (pda_nil)))))))) (psd_nil)) (psd_cons (psd_if (L2.PW.pt (pwd_or (ptd_cmp (ok_neA hr.units) (pd_isi (T := "bool") (by decide) E.z_isinstance E.z_bool (by decide +kernel) (pd_n 0)) (pd_isi (T := "bool") (by decide) E.z_isinstance E.z_bool (by decide +kernel) (pd_n 1))) (pwd_or1 (ptd_cmp (ok_neA hr.units) (pd_cmp ok_is (pd_n 0) (pd_non)) (pd_cmp ok_is (pd_n 1) (pd_non)))))) (psd_one (psd_ret (pd_bl))) (psd_nil)) (psd_one (psd_ret (pd_and (pd_cmp (ok_eqA hr.units) (pd_isi (T := "int") (by decide) E.z_isinstance E.z_int (by decide +kernel) (pd_n 0)) (pd_isi (T := "int") (by decide) E.z_isinstance E.z_int (by decide +kernel) (pd_n 1))) (pd_one (pd_cmp (ok_eqA hr.units) (pd_n 0) (pd_n 1)))))))) (vc__law_same 0)
theorem ok__law_same_1 (E : Fx K mg) : FnG P w K mg base CX0 2 E.f__law_same E.d__law_same ["one", "due"] (spOf K 2 (S__law_same 1)) := fn_data E.F__law_same sc__law_same (wb := w__law_same (R__law_same 1)) (fun c hK cdv A outer s H Ex hr hgd => by
  subst hK
  have hu1 := hu_of hr
  have hu0 := Nat.lt_of_succ_lt hu1
  have hr65 := unit65 hr
  have sc := sc__law_same
  exact psd_cons (psd_if (L2.PW.pt (pwd_or (ptd_val (pd_isi (T := "tuple") (by decide) E.z_isinstance E.z_tuple (by decide +kernel) (pd_n 1))) (pwd_or1 (ptd_val (pd_isi (T := "list") (by decide) E.z_isinstance E.z_list (by decide +kernel) (pd_n 1)))))) (psd_cons (psd_if (L2.PW.pt (pwd_or (ptd_cmp (ok_neA hr.units) (pd_isi (T := "tuple") (by decide) E.z_isinstance E.z_tuple (by decide +kernel) (pd_n 0)) (pd_isi (T := "tuple") (by decide) E.z_isinstance E.z_tuple (by decide +kernel) (pd_n 1))) (pwd_or1 (ptd_cmp (ok_neA hr.units) (pd_isi (T := "list") (by decide) E.z_isinstance E.z_list (by decide +kernel) (pd_n 0)) (pd_isi (T := "list") (by decide) E.z_isinstance E.z_list (by decide +kernel) (pd_n 1)))))) (psd_one (psd_ret (pd_bl))) (psd_nil)) (psd_one (psd_ret (pd_and (pd_cmp (ok_eqA hr.units) (pd_callB ok_len E.z_len (by decide +kernel) (pda_cons (pd_n 0) (pda_nil))) (pd_callB ok_len E.z_len (by decide +kernel) (pda_cons (pd_n 1) (pda_nil)))) (pd_one (pd_callB (ok_all rfl) E.z_all (by decide +kernel) (pda_cons (pd_lc (own := [("a", 2), ("b", 3)]) (tgs := [2, 3]) rfl sc.nd (pid_zip E.z_zip (pda_cons (pd_n 0) (pda_cons (pd_n 1) (pda_nil)))) (by (show blkC ["one", "due", "a", "b"] (defScope s__law_same) _ _ = true); decide +kernel) (by decide) (fun _ _ _ _ _ => pgd_tup rfl (pgds_cons (pgd_n (i := 2) sc.nd) (pgds_cons (pgd_n (i := 3) sc.nd) (pgds_nil (tg := []))))) (fun _ _ _ _ _ => ptsd_nil) (fun _ _ _ _ _ => pd_call (ok__law_same_0 E) rfl (hr.mono (by decide)) hgd E.g__law_same E.F__law_same.kp E.b__law_same (pda_cons (pd_n 2) (pda_cons (pd_n 3) (pda_nil))))) (pda_nil)))))))) (psd_nil)) (psd_cons (psd_if (L2.PW.pt (pwd_or (ptd_cmp (ok_neA hr.units) (pd_isi (T := "bool") (by decide) E.z_isinstance E.z_bool (by decide +kernel) (pd_n 0)) (pd_isi (T := "bool") (by decide) E.z_isinstance E.z_bool (by decide +kernel) (pd_n 1))) (pwd_or1 (ptd_cmp (ok_neA hr.units) (pd_cmp ok_is (pd_n 0) (pd_non)) (pd_cmp ok_is (pd_n 1) (pd_non)))))) (psd_one (psd_ret (pd_bl))) (psd_nil)) (psd_one (psd_ret (pd_and (pd_cmp (ok_eqA hr.units) (pd_isi (T := "int") (by decide) E.z_isinstance E.z_int (by decide +kernel) (pd_n 0)) (pd_isi (T := "int") (by decide) E.z_isinstance E.z_int (by decide +kernel) (pd_n 1))) (pd_one (pd_cmp (ok_eqA hr.units) (pd_n 0) (pd_n 1)))))))) (vc__law_same 1)
theorem ok__law_same_2 (E : Fx K mg) : FnG P w K mg base CX0 3 E.f__law_same E.d__law_same ["one", "due"] (spOf K 2 (S__law_same 2)) := fn_data E.F__law_same sc__law_same (wb := w__law_same (R__law_same 2)) (fun c hK cdv A outer s H Ex hr hgd => by
  subst hK
  have hu1 := hu_of hr
  have hu0 := Nat.lt_of_succ_lt hu1
  have hr65 := unit65 hr
  have sc := sc__law_same
  exact psd_cons (psd_if (L2.PW.pt (pwd_or (ptd_val (pd_isi (T := "tuple") (by decide) E.z_isinstance E.z_tuple (by decide +kernel) (pd_n 1))) (pwd_or1 (ptd_val (pd_isi (T := "list") (by decide) E.z_isinstance E.z_list (by decide +kernel) (pd_n 1)))))) (psd_cons (psd_if (L2.PW.pt (pwd_or (ptd_cmp (ok_neA hr.units) (pd_isi (T := "tuple") (by decide) E.z_isinstance E.z_tuple (by decide +kernel) (pd_n 0)) (pd_isi (T := "tuple") (by decide) E.z_isinstance E.z_tuple (by decide +kernel) (pd_n 1))) (pwd_or1 (ptd_cmp (ok_neA hr.units) (pd_isi (T := "list") (by decide) E.z_isinstance E.z_list (by decide +kernel) (pd_n 0)) (pd_isi (T := "list") (by decide) E.z_isinstance E.z_list (by decide +kernel) (pd_n 1)))))) (psd_one (psd_ret (pd_bl))) (psd_nil)) (psd_one (psd_ret (pd_and (pd_cmp (ok_eqA hr.units) (pd_callB ok_len E.z_len (by decide +kernel) (pda_cons (pd_n 0) (pda_nil))) (pd_callB ok_len E.z_len (by decide +kernel) (pda_cons (pd_n 1) (pda_nil)))) (pd_one (pd_callB (ok_all rfl) E.z_all (by decide +kernel) (pda_cons (pd_lc (own := [("a", 2), ("b", 3)]) (tgs := [2, 3]) rfl sc.nd (pid_zip E.z_zip (pda_cons (pd_n 0) (pda_cons (pd_n 1) (pda_nil)))) (by (show blkC ["one", "due", "a", "b"] (defScope s__law_same) _ _ = true); decide +kernel) (by decide) (fun _ _ _ _ _ => pgd_tup rfl (pgds_cons (pgd_n (i := 2) sc.nd) (pgds_cons (pgd_n (i := 3) sc.nd) (pgds_nil (tg := []))))) (fun _ _ _ _ _ => ptsd_nil) (fun _ _ _ _ _ => pd_call (ok__law_same_1 E) rfl (hr.mono (by decide)) hgd E.g__law_same E.F__law_same.kp E.b__law_same (pda_cons (pd_n 2) (pda_cons (pd_n 3) (pda_nil))))) (pda_nil)))))))) (psd_nil)) (psd_cons (psd_if (L2.PW.pt (pwd_or (ptd_cmp (ok_neA hr.units) (pd_isi (T := "bool") (by decide) E.z_isinstance E.z_bool (by decide +kernel) (pd_n 0)) (pd_isi (T := "bool") (by decide) E.z_isinstance E.z_bool (by decide +kernel) (pd_n 1))) (pwd_or1 (ptd_cmp (ok_neA hr.units) (pd_cmp ok_is (pd_n 0) (pd_non)) (pd_cmp ok_is (pd_n 1) (pd_non)))))) (psd_one (psd_ret (pd_bl))) (psd_nil)) (psd_one (psd_ret (pd_and (pd_cmp (ok_eqA hr.units) (pd_isi (T := "int") (by decide) E.z_isinstance E.z_int (by decide +kernel) (pd_n 0)) (pd_isi (T := "int") (by decide) E.z_isinstance E.z_int (by decide +kernel) (pd_n 1))) (pd_one (pd_cmp (ok_eqA hr.units) (pd_n 0) (pd_n 1)))))))) (vc__law_same 2)
end
end Kd
end Dl
namespace Dl
namespace Kd
open PySem PySem.Spec PyProof.Rows
open L2
section
variable {P : Program} {w : World} {K : PySem.W.Frag} {mg : Str → Option Value} {base : Heap}
/-! ### dots by place -/
def atC (c : List (Int × Int)) (i : Int) : Int × Int := (c[i.toNat]?).getD (0, 0)
theorem at_ix {c : List (Int × Int)} {i : Int} (h0 : 0 ≤ i) (h : i < c.length) : ixD (c.map dotD) i = some (dotD (atC c i)) ∧ atC c i ∈ c := by
  have hlt : i.toNat < c.length := by omega
  unfold ixD atC
  rw [if_pos h0, List.getElem?_map, List.getElem?_eq_getElem hlt]
  exact ⟨rfl, List.getElem_mem hlt⟩
theorem pl_dot (p : Int × Int) : pl (dotD p) = true := rfl
theorem pl_dots : ∀ c : List (Int × Int), pls (c.map dotD) = true
  | [] => rfl
  | p :: c => by
    rw [List.map_cons, pls, pl_dot, pl_dots c]
    rfl
theorem pl_crowd (c : List (Int × Int)) : pl (crowdD c) = true := pl_dots c
theorem crowd_is {c : List (Int × Int)} (h : CrowdOk c) : isCrowd (crowdD c) = true := by
  have h1 := h.few
  have h2 := h.many
  have h3 : (c.map dotD).all isDot = true := by
    rw [List.all_map, List.all_eq_true]
    exact fun p hp => dot_isDot (h.box p hp)
  have h4 := (keysOf_dots c).mpr h.nd
  simp only [isCrowd, crowdD, List.length_map, h3, h4, h1, h2, decide_true, Bool.and_true]
/-! ### turns, ways that meet -/
def areaI (a b c : Int × Int) : Int := (b.1 - a.1) * (c.2 - a.2) - (b.2 - a.2) * (c.1 - a.1)
def sgn (i : Int) : Int := (if 0 < i then 1 else 0) - (if i < 0 then 1 else 0)
def turnI (a b c : Int × Int) : Int := sgn (areaI a b c)
def btw (x y z : Int) : Bool := decide ((if y < x then y else x) ≤ z) && decide (z ≤ (if x < y then y else x))
def onI (a b c : Int × Int) : Bool := decide (areaI a b c = 0) && (btw a.1 b.1 c.1 && btw a.2 b.2 c.2)
def crossI (a b c d : Int × Int) : Bool := decide (turnI a b c * turnI a b d < 0) && decide (turnI c d a * turnI c d b < 0)
def meetI (a b c d : Int × Int) : Bool := crossI a b c d || (onI a b c || (onI a b d || (onI c d a || onI c d b)))
theorem sgn_small (i : Int) : -1 ≤ sgn i ∧ sgn i ≤ 1 := by
  unfold sgn
  split <;> split <;> omega
def S_raw_area : Dl.Spec := datS fun ds k => match ds with
  | [.tup [.int a0, .int a1], .tup [.int b0, .int b1], .tup [.int c0, .int c1]] => isDot (dotD (a0, a1)) = true ∧ isDot (dotD (b0, b1)) = true ∧ isDot (dotD (c0, c1)) = true ∧ k (.dat (.int (areaI (a0, a1) (b0, b1) (c0, c1))))
  | _ => False
def w_raw_area : WS := wRet (wBin gSub (wBin gMul (wBin gSub (wBin gAt (wN 1) (wD (.int 0))) (wBin gAt (wN 0) (wD (.int 0)))) (wBin gSub (wBin gAt (wN 2) (wD (.int 1))) (wBin gAt (wN 0) (wD (.int 1))))) (wBin gMul (wBin gSub (wBin gAt (wN 1) (wD (.int 1))) (wBin gAt (wN 0) (wD (.int 1)))) (wBin gSub (wBin gAt (wN 2) (wD (.int 0))) (wBin gAt (wN 0) (wD (.int 0))))))
theorem vc_raw_area : ∀ as rs Qd, ArRs as rs → rs.length = 3 → S_raw_area as Qd → w_raw_area (fin rs Qd) (gm0 3 rs) := vc_dat fun ds k hn hp => by
  split at hp; rotate_left; exact hp.elim
  rename_i a0 a1 b0 b1 c0 c1
  obtain ⟨h1, h2, h3, q⟩ := hp
  have s1 := dot_small h1
  have s2 := dot_small h2
  have s3 := dot_small h3
  show w_raw_area (finD k) [some (.dat (.tup [.int a0, .int a1])), some (.dat (.tup [.int b0, .int b1])), some (.dat (.tup [.int c0, .int c1]))]
  repeat (first | (refine And.intro rfl ?_) | (refine And.intro True.intro ?_) | (refine And.intro ⟨rfl, rfl⟩ ?_) | (refine And.intro ⟨rfl, True.intro⟩ ?_) | (refine And.intro (by first | assumption | omega | exact .inr (.inl (fm_small _ (by decide) (by decide))) | (simp [put, wipeG]; done) | (simp [put, wipeG]; omega)) ?_) | (intro _))
  exact q
theorem ok_raw_area (E : Fx K mg) : FnG P w K mg base CX0 1 E.f_raw_area E.d_raw_area ["a", "b", "c"] (spOf K 3 S_raw_area) := fn_data E.F_raw_area sc_raw_area (wb := w_raw_area) (fun c hK cdv A outer s H Ex hr hgd => by
  subst hK
  have hu1 := hu_of hr
  have hu0 := Nat.lt_of_succ_lt hu1
  have hr65 := unit65 hr
  have sc := sc_raw_area
  exact psd_one (psd_ret (pd_bin ok_sub (pd_bin ok_mul (pd_bin ok_sub (pd_sub hu1 (pd_n 1) (pd_int)) (pd_sub hu1 (pd_n 0) (pd_int))) (pd_bin ok_sub (pd_sub hu1 (pd_n 2) (pd_int)) (pd_sub hu1 (pd_n 0) (pd_int)))) (pd_bin ok_mul (pd_bin ok_sub (pd_sub hu1 (pd_n 1) (pd_int)) (pd_sub hu1 (pd_n 0) (pd_int))) (pd_bin ok_sub (pd_sub hu1 (pd_n 2) (pd_int)) (pd_sub hu1 (pd_n 0) (pd_int))))))) vc_raw_area
def S_side_of : Dl.Spec := datS fun ds k => match ds with
  | [.int i] => k (.dat (.int (sgn i)))
  | _ => False
def w_side_of : WS := wRet (wBin gSub (wCB gInt (waC (wBin gGt (wN 0) (wD (.int 0))) (waN))) (wCB gInt (waC (wBin gLt (wN 0) (wD (.int 0))) (waN))))
theorem vc_side_of : ∀ as rs Qd, ArRs as rs → rs.length = 1 → S_side_of as Qd → w_side_of (fin rs Qd) (gm0 1 rs) := vc_dat fun ds k hn q => by
  split at q; rotate_left; exact q.elim
  rename_i i
  show w_side_of (finD k) [some (.dat (.int i))]
  repeat (first | (refine And.intro rfl ?_) | (refine And.intro True.intro ?_) | (refine And.intro ⟨rfl, rfl⟩ ?_) | (refine And.intro ⟨rfl, True.intro⟩ ?_) | (refine And.intro (by first | assumption | omega | exact .inr (.inl (fm_small _ (by decide) (by decide))) | (simp [put, wipeG]; done) | (simp [put, wipeG]; omega)) ?_) | (intro _))
  conv => whnf
  have e : sgn i = (if decide (0 < i) = true then 1 else 0) - (if decide (i < 0) = true then 1 else 0) := by
    unfold sgn
    simp only [decide_eq_true_eq]
  rw [e] at q
  exact q
theorem ok_side_of (E : Fx K mg) : FnG P w K mg base CX0 1 E.f_side_of E.d_side_of ["number"] (spOf K 1 S_side_of) := fn_data E.F_side_of sc_side_of (wb := w_side_of) (fun c hK cdv A outer s H Ex hr hgd => by
  subst hK
  have hu1 := hu_of hr
  have hu0 := Nat.lt_of_succ_lt hu1
  have hr65 := unit65 hr
  have sc := sc_side_of
  exact psd_one (psd_ret (pd_bin ok_sub (pd_callT ok_int E.z_int (by decide +kernel) (pda_cons (pd_cmp ok_gt (pd_n 0) (pd_int)) (pda_nil))) (pd_callT ok_int E.z_int (by decide +kernel) (pda_cons (pd_cmp ok_lt (pd_n 0) (pd_int)) (pda_nil)))))) vc_side_of
def S_raw_turn : Dl.Spec := datS fun ds k => match ds with
  | [.tup [.int a0, .int a1], .tup [.int b0, .int b1], .tup [.int c0, .int c1]] => isDot (dotD (a0, a1)) = true ∧ isDot (dotD (b0, b1)) = true ∧ isDot (dotD (c0, c1)) = true ∧ k (.dat (.int (turnI (a0, a1) (b0, b1) (c0, c1))))
  | _ => False
def w_raw_turn : WS := wRet (wCall 1 S_side_of (waC (wCall 3 S_raw_area (waC (wN 0) (waC (wN 1) (waC (wN 2) (waN))))) (waN)))
theorem vc_raw_turn : ∀ as rs Qd, ArRs as rs → rs.length = 3 → S_raw_turn as Qd → w_raw_turn (fin rs Qd) (gm0 3 rs) := vc_dat fun ds k hn hp => by
  split at hp; rotate_left; exact hp.elim
  rename_i a0 a1 b0 b1 c0 c1
  obtain ⟨h1, h2, h3, q⟩ := hp
  show w_raw_turn (finD k) [some (.dat (.tup [.int a0, .int a1])), some (.dat (.tup [.int b0, .int b1])), some (.dat (.tup [.int c0, .int c1]))]
  repeat (first | (refine And.intro rfl ?_) | (refine And.intro True.intro ?_) | (refine And.intro ⟨rfl, rfl⟩ ?_) | (refine And.intro ⟨rfl, True.intro⟩ ?_) | (refine And.intro (by first | assumption | omega | exact .inr (.inl (fm_small _ (by decide) (by decide))) | (simp [put, wipeG]; done) | (simp [put, wipeG]; omega)) ?_) | (intro _))
  refine ⟨[_, _, _], rfl, h1, h2, h3, ?_⟩
  repeat (first | (refine And.intro rfl ?_) | (refine And.intro True.intro ?_) | (refine And.intro ⟨rfl, rfl⟩ ?_) | (refine And.intro ⟨rfl, True.intro⟩ ?_) | (refine And.intro (by first | assumption | omega | exact .inr (.inl (fm_small _ (by decide) (by decide))) | (simp [put, wipeG]; done) | (simp [put, wipeG]; omega)) ?_) | (intro _))
  exact ⟨[_], rfl, q⟩
theorem ok_raw_turn (E : Fx K mg) : FnG P w K mg base CX0 2 E.f_raw_turn E.d_raw_turn ["a", "b", "c"] (spOf K 3 S_raw_turn) := fn_data E.F_raw_turn sc_raw_turn (wb := w_raw_turn) (fun c hK cdv A outer s H Ex hr hgd => by
  subst hK
  have hu1 := hu_of hr
  have hu0 := Nat.lt_of_succ_lt hu1
  have hr65 := unit65 hr
  have sc := sc_raw_turn
  exact psd_one (psd_ret (pd_call (ok_side_of E) rfl (hr.mono (by decide)) hgd E.g_side_of E.F_side_of.kp E.b_side_of (pda_cons (pd_call (ok_raw_area E) rfl (hr.mono (by decide)) hgd E.g_raw_area E.F_raw_area.kp E.b_raw_area (pda_cons (pd_n 0) (pda_cons (pd_n 1) (pda_cons (pd_n 2) (pda_nil))))) (pda_nil))))) vc_raw_turn
/-! ### free crowds -/
def lotD (l : List Int) : D := .tup (l.map D.int)
structure FreeOk (c : List (Int × Int)) : Prop where
  ok : CrowdOk c
  free : ∀ i j k : Int, 0 ≤ i → i < j → j < k → k < c.length → areaI (atC c i) (atC c j) (atC c k) ≠ 0
theorem at_dot {c : List (Int × Int)} (hc : CrowdOk c) {i : Int} (h0 : 0 ≤ i) (h : i < c.length) : isDot (dotD (atC c i)) = true := dot_isDot (hc.box _ (at_ix h0 h).2)
/-! ### sides of free crowds: the plain law -/
theorem area_back (a b c : Int × Int) : areaI b a c = -areaI a b c := by
  unfold areaI
  grind
theorem area_round (a b c : Int × Int) : areaI b c a = areaI a b c := by
  unfold areaI
  grind
theorem area_end (a b c : Int × Int) : areaI a c b = -areaI a b c := by
  unfold areaI
  grind
theorem sgn_neg (i : Int) : sgn (-i) = -sgn i := by
  unfold sgn
  split <;> split <;> split <;> split <;> omega
theorem turn_back (a b c : Int × Int) : turnI b a c = -turnI a b c := by
  unfold turnI
  rw [area_back, sgn_neg]
theorem turn_same1 (a b : Int × Int) : turnI a b a = 0 := by
  have : areaI a b a = 0 := by unfold areaI; grind
  unfold turnI
  rw [this]
  rfl
theorem turn_same2 (a b : Int × Int) : turnI a b b = 0 := by
  have : areaI a b b = 0 := by unfold areaI; grind
  unfold turnI
  rw [this]
  rfl
theorem free_any {c : List (Int × Int)} (hf : FreeOk c) {i j k : Int} (hi : 0 ≤ i ∧ i < c.length) (hj : 0 ≤ j ∧ j < c.length) (hk : 0 ≤ k ∧ k < c.length) (h1 : i ≠ j) (h2 : i ≠ k) (h3 : j ≠ k) : areaI (atC c i) (atC c j) (atC c k) ≠ 0 := by
  have key : ∀ x y z : Int, 0 ≤ x → x < y → y < z → z < c.length → areaI (atC c x) (atC c y) (atC c z) ≠ 0 := hf.free
  rcases Int.lt_or_gt_of_ne h1 with a | a <;> rcases Int.lt_or_gt_of_ne h2 with b | b <;> rcases Int.lt_or_gt_of_ne h3 with d | d
  · exact key i j k hi.1 a d hk.2
  · have := key i k j hi.1 b d hj.2
    rw [area_end] at this
    omega
  · omega
  · have := key k i j hk.1 b a hj.2
    rw [area_round (atC c k) (atC c i) (atC c j)]
    exact this
  · have := key j i k hj.1 a b hk.2
    rw [area_back] at this
    omega
  · omega
  · have := key j k i hj.1 d b hi.2
    rw [← area_round (atC c i) (atC c j) (atC c k)]
    exact this
  · have := key k j i hk.1 d a hi.2
    have e : areaI (atC c k) (atC c j) (atC c i) = -areaI (atC c i) (atC c j) (atC c k) := by unfold areaI; grind
    have := key k j i hk.1 d a hi.2
    omega
def sepB (a b k l : Int × Int) : Bool := decide (turnI a b k * turnI a b l < 0)
def crB (a b k l : Int × Int) : Bool := sepB a b k l && sepB k l a b
def idL (n : Nat) : List Int := (List.range n).map fun (i : Nat) => (i : Int)
theorem idL_is (n : Nat) : rngL 0 n = (idL n).map D.int := by
  unfold rngL idL
  rw [List.map_map]
  refine List.map_congr_left fun i _ => ?_
  show D.int (0 + (i : Int)) = D.int i
  rw [Int.zero_add]
theorem idL_len (n : Nat) : (idL n).length = n := by simp [idL]
theorem idL_in {n : Nat} {x : Int} (h : x ∈ idL n) : 0 ≤ x ∧ x < n := by
  obtain ⟨i, hi, rfl⟩ := List.mem_map.mp h
  have := List.mem_range.mp hi
  omega
theorem idL_nd (n : Nat) : (idL n).Nodup := by
  unfold idL
  rw [List.Nodup, List.pairwise_map]
  exact List.nodup_range.imp fun h e => h (by omega)
/-! ### lists of whole numbers, read -/
def atI (M : List Int) (i : Int) : Int := (M[i.toNat]?).getD 0
theorem atI_ix {M : List Int} {i : Int} (h0 : 0 ≤ i) (h : i < M.length) : ixD (M.map D.int) i = some (.int (atI M i)) ∧ atI M i ∈ M := by
  have h2 : i.toNat < M.length := by omega
  unfold ixD atI
  rw [if_pos h0, List.getElem?_map, List.getElem?_eq_getElem h2]
  exact ⟨rfl, List.getElem_mem h2⟩
theorem enum_ints (R : List Int) : enumD (R.map D.int) = (idL R.length).map fun i => D.tup [.int i, .int (atI R i)] := by
  apply List.ext_getElem?
  intro i
  unfold enumD idL
  rw [List.map_map, List.getElem?_zipWith, List.getElem?_map, List.getElem?_map, List.length_map]
  by_cases hi : i < R.length
  · rw [List.getElem?_range hi, List.getElem?_eq_getElem hi]
    simp [atI, hi]
  · rw [List.getElem?_eq_none (by simpa using hi), List.getElem?_eq_none (by simpa using hi)]
    rfl
def unD : D → Int × Int
  | .tup [.int a, .int b] => (a, b)
  | _ => (0, 0)
theorem unD_map (t : List (Int × Int)) : (t.map dotD).map unD = t := by
  rw [List.map_map]
  exact List.map_id t
theorem shs_intsR : ∀ (l : List Int) (n : Nat), shs (l.map D.int) n = true
  | [], _ => rfl
  | a :: l, n => by
    rw [List.map_cons, shs, shs_intsR l]
    rfl
theorem sh_lstR (l : List Int) : sh (.lst (l.map D.int)) 60 = true := by
  show (decide (0 < 60) && shs (l.map D.int) (60 - 1)) = true
  rw [shs_intsR]
  rfl
theorem eqv_ints : ∀ l : List Int, PyData.eqvAll (toPs (l.map D.int)) (toPs (l.map D.int)) = true
  | [] => by simp [toPs, PyData.eqvAll]
  | a :: l => by
    have := eqv_ints l
    simp only [List.map_cons, toPs, PyData.eqvAll, this, Bool.and_true]
    simp [toP, PyData.eqv]
theorem eq_lstR (l : List Int) : eqD (.lst (l.map D.int)) (.lst (l.map D.int)) = true := by
  unfold eqD
  simp only [toP, PyData.eqv]
  exact eqv_ints l
end
end Kd
end Dl
namespace Dl
namespace Kd
open PySem PySem.Spec PyProof.Rows
open L2
section
variable {P : Program} {w : World} {K : PySem.W.Frag} {mg : Str → Option Value} {base : Heap}
def S__law_area : Dl.Spec := datS fun ds k => match ds with
  | [.tup [.int a0, .int a1], .tup [.int b0, .int b1], .tup [.int c0, .int c1]] => isDot (dotD (a0, a1)) = true ∧ isDot (dotD (b0, b1)) = true ∧ isDot (dotD (c0, c1)) = true ∧ k (.dat (.int (areaI (a0, a1) (b0, b1) (c0, c1))))
  | _ => False
def w__law_area : WS := wRet (wBin gSub (wBin gMul (wBin gSub (wBin gAt (wN 1) (wD (.int 0))) (wBin gAt (wN 0) (wD (.int 0)))) (wBin gSub (wBin gAt (wN 2) (wD (.int 1))) (wBin gAt (wN 0) (wD (.int 1))))) (wBin gMul (wBin gSub (wBin gAt (wN 1) (wD (.int 1))) (wBin gAt (wN 0) (wD (.int 1)))) (wBin gSub (wBin gAt (wN 2) (wD (.int 0))) (wBin gAt (wN 0) (wD (.int 0))))))
theorem vc__law_area : ∀ as rs Qd, ArRs as rs → rs.length = 3 → S__law_area as Qd → w__law_area (fin rs Qd) (gm0 3 rs) := vc_dat fun ds k hn hp => by
  split at hp; rotate_left; exact hp.elim
  rename_i a0 a1 b0 b1 c0 c1
  obtain ⟨h1, h2, h3, q⟩ := hp
  have s1 := dot_small h1
  have s2 := dot_small h2
  have s3 := dot_small h3
  show w__law_area (finD k) [some (.dat (.tup [.int a0, .int a1])), some (.dat (.tup [.int b0, .int b1])), some (.dat (.tup [.int c0, .int c1]))]
  repeat (first | (refine And.intro rfl ?_) | (refine And.intro True.intro ?_) | (refine And.intro ⟨rfl, rfl⟩ ?_) | (refine And.intro ⟨rfl, True.intro⟩ ?_) | (refine And.intro (by first | assumption | omega | exact .inr (.inl (fm_small _ (by decide) (by decide))) | (simp [put, wipeG]; done) | (simp [put, wipeG]; omega)) ?_) | (intro _))
  exact q
theorem ok__law_area (E : Fx K mg) : FnG P w K mg base CX0 1 E.f__law_area E.d__law_area ["a", "b", "c"] (spOf K 3 S__law_area) := fn_data E.F__law_area sc__law_area (wb := w__law_area) (fun c hK cdv A outer s H Ex hr hgd => by
  subst hK
  have hu1 := hu_of hr
  have hu0 := Nat.lt_of_succ_lt hu1
  have hr65 := unit65 hr
  have sc := sc__law_area
  exact psd_one (psd_ret (pd_bin ok_sub (pd_bin ok_mul (pd_bin ok_sub (pd_sub hu1 (pd_n 1) (pd_int)) (pd_sub hu1 (pd_n 0) (pd_int))) (pd_bin ok_sub (pd_sub hu1 (pd_n 2) (pd_int)) (pd_sub hu1 (pd_n 0) (pd_int)))) (pd_bin ok_mul (pd_bin ok_sub (pd_sub hu1 (pd_n 1) (pd_int)) (pd_sub hu1 (pd_n 0) (pd_int))) (pd_bin ok_sub (pd_sub hu1 (pd_n 2) (pd_int)) (pd_sub hu1 (pd_n 0) (pd_int))))))) vc__law_area
def S__law_turn : Dl.Spec := datS fun ds k => match ds with
  | [.tup [.int a0, .int a1], .tup [.int b0, .int b1], .tup [.int c0, .int c1]] => isDot (dotD (a0, a1)) = true ∧ isDot (dotD (b0, b1)) = true ∧ isDot (dotD (c0, c1)) = true ∧ k (.dat (.int (turnI (a0, a1) (b0, b1) (c0, c1))))
  | _ => False
def w__law_turn : WS := wSeq (wAsg (wCall 3 S__law_area (waC (wN 0) (waC (wN 1) (waC (wN 2) (waN))))) (stN 3)) (wRet (wBin gSub (wCB gInt (waC (wBin gGt (wN 3) (wD (.int 0))) (waN))) (wCB gInt (waC (wBin gLt (wN 3) (wD (.int 0))) (waN)))))
theorem vc__law_turn : ∀ as rs Qd, ArRs as rs → rs.length = 3 → S__law_turn as Qd → w__law_turn (fin rs Qd) (gm0 4 rs) := vc_dat fun ds k hn hp => by
  split at hp; rotate_left; exact hp.elim
  rename_i a0 a1 b0 b1 c0 c1
  obtain ⟨h1, h2, h3, q⟩ := hp
  show w__law_turn (finD k) [some (.dat (.tup [.int a0, .int a1])), some (.dat (.tup [.int b0, .int b1])), some (.dat (.tup [.int c0, .int c1])), none]
  repeat (first | (dsimp only [put, wipeG, List.set]) | (refine And.intro rfl ?_) | (refine And.intro True.intro ?_) | (refine And.intro ⟨rfl, rfl⟩ ?_) | (refine And.intro ⟨rfl, True.intro⟩ ?_) | (refine And.intro (by first | assumption | omega | exact .inr (.inl (fm_small _ (by decide) (by decide))) | (simp [put, wipeG]; done) | (simp [put, wipeG]; omega)) ?_) | (intro _))
  refine ⟨[_, _, _], rfl, h1, h2, h3, ?_⟩
  repeat (first | (dsimp only [put, wipeG, List.set]) | (refine And.intro rfl ?_) | (refine And.intro True.intro ?_) | (refine And.intro ⟨rfl, rfl⟩ ?_) | (refine And.intro ⟨rfl, True.intro⟩ ?_) | (refine And.intro (by first | assumption | omega | exact .inr (.inl (fm_small _ (by decide) (by decide))) | (simp [put, wipeG]; done) | (simp [put, wipeG]; omega)) ?_) | (intro _))
  conv => whnf
  unfold turnI sgn at q
  by_cases p : 0 < areaI (a0, a1) (b0, b1) (c0, c1)
  · simp only [p, show ¬ areaI (a0, a1) (b0, b1) (c0, c1) < 0 by omega, decide_true, if_true, if_false] at q ⊢
    exact q
  · simp only [p, decide_false, if_false] at q ⊢
    conv => whnf
    by_cases n : areaI (a0, a1) (b0, b1) (c0, c1) < 0
    · simp only [n, decide_true, if_true] at q ⊢
      repeat (first | (dsimp only [put, wipeG, List.set]) | (refine And.intro rfl ?_) | (refine And.intro True.intro ?_) | (refine And.intro ⟨rfl, rfl⟩ ?_) | (refine And.intro ⟨rfl, True.intro⟩ ?_) | (refine And.intro (by first | assumption | omega | exact .inr (.inl (fm_small _ (by decide) (by decide))) | (simp [put, wipeG]; done) | (simp [put, wipeG]; omega)) ?_) | (intro _))
      exact q
    · simp only [n, decide_false, if_false] at q ⊢
      exact q
theorem ok__law_turn (E : Fx K mg) : FnG P w K mg base CX0 2 E.f__law_turn E.d__law_turn ["a", "b", "c"] (spOf K 3 S__law_turn) := fn_data E.F__law_turn sc__law_turn (wb := w__law_turn) (fun c hK cdv A outer s H Ex hr hgd => by
  subst hK
  have hu1 := hu_of hr
  have hu0 := Nat.lt_of_succ_lt hu1
  have hr65 := unit65 hr
  have sc := sc__law_turn
  exact psd_cons (psd_set (i := 3) sc.nd (pd_call (ok__law_area E) rfl (hr.mono (by decide)) hgd E.g__law_area E.F__law_area.kp E.b__law_area (pda_cons (pd_n 0) (pda_cons (pd_n 1) (pda_cons (pd_n 2) (pda_nil)))))) (psd_one (psd_ret (pd_bin ok_sub (pd_callT ok_int E.z_int (by decide +kernel) (pda_cons (pd_cmp ok_gt (pd_n 3) (pd_int)) (pda_nil))) (pd_callT ok_int E.z_int (by decide +kernel) (pda_cons (pd_cmp ok_lt (pd_n 3) (pd_int)) (pda_nil))))))) vc__law_turn
def S__law_drawn : Dl.Spec := hanS fun h ds k => match ds with
  | [.int w] => HandOk h ∧ 0 ≤ w ∧ w ≤ 10000 ∧ ∀ x y h', -w ≤ x → x ≤ w → -w ≤ y → y ≤ w → HandOk h' → k (.dat (.tup [.int x, .int y])) h'
  | _ => False
theorem mono__law_drawn : Mono S__law_drawn := mono_han fun l ds k k' hk hp => by
  split at hp
  · exact ⟨hp.1, hp.2.1, hp.2.2.1, fun x y h' a b c d e => hk _ _ (hp.2.2.2 x y h' a b c d e)⟩
  · exact hp.elim
def w__law_drawn : WS := wRet (wTup (waC (wBin gSub (wCallL 2 S__law_draw (waC (wN 0) (waC (wBin gAdd (wBin gMul (wD (.int 2)) (wN 1)) (wD (.int 1))) (waN)))) (wN 1)) (waC (wBin gSub (wCallL 2 S__law_draw (waC (wN 0) (waC (wBin gAdd (wBin gMul (wD (.int 2)) (wN 1)) (wD (.int 1))) (waN)))) (wN 1)) (waN))))
theorem vc__law_drawn : ∀ as rs Qd, ArRs as rs → rs.length = 2 → S__law_drawn as Qd → w__law_drawn (fin rs Qd) (gm0 2 rs) := vc_han fun a h ds k hn hp => by
  split at hp; rotate_left; exact hp.elim
  rename_i w
  obtain ⟨hh, w0, w1, q⟩ := hp
  show w__law_drawn (finH a k) [some (.lst true a h), some (.dat (.int w))]
  repeat (first | (refine And.intro rfl ?_) | (refine And.intro True.intro ?_) | (refine And.intro ⟨rfl, rfl⟩ ?_) | (refine And.intro ⟨rfl, True.intro⟩ ?_) | (refine And.intro (by first | assumption | omega | exact .inr (.inl (fm_small _ (by decide) (by decide))) | (simp [put, wipeG]; done) | (simp [put, wipeG]; omega)) ?_) | (intro _))
  refine ⟨h, [_], rfl, hh, by omega, by omega, fun r h' r0 r1 hh' => ?_⟩
  repeat (first | (refine And.intro rfl ?_) | (refine And.intro True.intro ?_) | (refine And.intro ⟨rfl, rfl⟩ ?_) | (refine And.intro ⟨rfl, True.intro⟩ ?_) | (refine And.intro (by first | assumption | omega | exact .inr (.inl (fm_small _ (by decide) (by decide))) | (simp [put, wipeG]; done) | (simp [put, wipeG]; omega)) ?_) | (intro _))
  refine ⟨h', [_], rfl, hh', by omega, by omega, fun r2 h2 r3 r4 hh2 => ?_⟩
  repeat (first | (refine And.intro rfl ?_) | (refine And.intro True.intro ?_) | (refine And.intro ⟨rfl, rfl⟩ ?_) | (refine And.intro ⟨rfl, True.intro⟩ ?_) | (refine And.intro (by first | assumption | omega | exact .inr (.inl (fm_small _ (by decide) (by decide))) | (simp [put, wipeG]; done) | (simp [put, wipeG]; omega)) ?_) | (intro _))
  exact q _ _ h2 (by omega) (by omega) (by omega) (by omega) hh2
theorem ok__law_drawn (E : Fx K mg) : FnG P w K mg base CX0 2 E.f__law_drawn E.d__law_drawn ["hand", "wide"] (spOf K 2 S__law_drawn) := fn_data E.F__law_drawn sc__law_drawn (wb := w__law_drawn) (fun c hK cdv A outer s H Ex hr hgd => by
  subst hK
  have hu1 := hu_of hr
  have hu0 := Nat.lt_of_succ_lt hu1
  have hr65 := unit65 hr
  have sc := sc__law_drawn
  exact psd_one (psd_ret (pd_tup (pda_cons (pd_bin ok_sub (pd_callL (ok__law_draw E) rfl mono__law_draw (hr.mono (by decide)) hgd E.g__law_draw E.F__law_draw.kp E.b__law_draw (pda_cons (pd_n 0) (pda_cons (pd_bin ok_add (pd_bin ok_mul (pd_int) (pd_n 1)) (pd_int)) (pda_nil)))) (pd_n 1)) (pda_cons (pd_bin ok_sub (pd_callL (ok__law_draw E) rfl mono__law_draw (hr.mono (by decide)) hgd E.g__law_draw E.F__law_draw.kp E.b__law_draw (pda_cons (pd_n 0) (pda_cons (pd_bin ok_add (pd_bin ok_mul (pd_int) (pd_n 1)) (pd_int)) (pda_nil)))) (pd_n 1)) (pda_nil)))))) vc__law_drawn
def S_mirrored : Dl.Spec := datS fun ds k => ∃ c, ds = [crowdD c] ∧ CrowdOk c ∧ k (.dat (crowdD (c.map fun p => (-p.1, p.2))))
def w_mirrored : WS := wSeq (wDrop (wCall 1 S_check_crowd (waC (wN 0) (waN)))) (wRet (wCB gTuple (waC (wLc [1, 2] (wiSeq (wN 0)) (stTup 2 (stCons (stN 1) (stCons (stN 2) (stNil)))) (wYes) (wTup (waC (wNeg (wN 1)) (waC (wN 2) (waN))))) (waN))))
def negF : D → D
  | .tup [.int x, .int y] => dotD (-x, y)
  | d => d
theorem vc_mirrored : ∀ as rs Qd, ArRs as rs → rs.length = 1 → S_mirrored as Qd → w_mirrored (fin rs Qd) (gm0 3 rs) := vc_dat fun ds k hn hp => by
  obtain ⟨c, rfl, hc, q⟩ := hp
  have c12 := hc.many
  show w_mirrored (finD k) [some (.dat (crowdD c)), none, none]
  repeat (first | (refine And.intro rfl ?_) | (refine And.intro True.intro ?_) | (refine And.intro ⟨rfl, rfl⟩ ?_) | (refine And.intro ⟨rfl, True.intro⟩ ?_) | (refine And.intro (by first | assumption | omega | exact .inr (.inl (fm_small _ (by decide) (by decide))) | (simp [put, wipeG]; done) | (simp [put, wipeG]; omega)) ?_) | (intro _))
  refine ⟨[_], rfl, pl_crowd c, crowd_is hc, ?_⟩
  conv => whnf
  refine lc_map negF _ _ (by rw [List.length_map]; omega) True.intro (fun d hd K hK => ?_) ?_
  · obtain ⟨p, _, rfl⟩ := List.mem_map.mp hd
    repeat (first | (refine And.intro rfl ?_) | (refine And.intro True.intro ?_) | (refine And.intro ⟨rfl, rfl⟩ ?_) | (refine And.intro ⟨rfl, True.intro⟩ ?_) | (refine And.intro (by first | assumption | omega | exact .inr (.inl (fm_small _ (by decide) (by decide))) | (simp [put, wipeG]; done) | (simp [put, wipeG]; omega)) ?_) | (intro _))
    exact hK
  · have e : (c.map dotD).map negF = (c.map fun p => (-p.1, p.2)).map dotD := by
      rw [List.map_map, List.map_map]
      rfl
    rw [e]
    repeat (first | (refine And.intro rfl ?_) | (refine And.intro True.intro ?_) | (refine And.intro ⟨rfl, rfl⟩ ?_) | (refine And.intro ⟨rfl, True.intro⟩ ?_) | (refine And.intro (by first | assumption | omega | exact .inr (.inl (fm_small _ (by decide) (by decide))) | (simp [put, wipeG]; done) | (simp [put, wipeG]; omega)) ?_) | (intro _))
    exact q
theorem ok_mirrored (E : Fx K mg) : FnG P w K mg base CX0 6 E.f_mirrored E.d_mirrored ["crowd"] (spOf K 1 S_mirrored) := fn_data E.F_mirrored sc_mirrored (wb := w_mirrored) (fun c hK cdv A outer s H Ex hr hgd => by
  subst hK
  have hu1 := hu_of hr
  have hu0 := Nat.lt_of_succ_lt hu1
  have hr65 := unit65 hr
  have sc := sc_mirrored
  exact psd_cons (psd_expr (pd_call (ok_check_crowd E) rfl (hr.mono (by decide)) hgd E.g_check_crowd E.F_check_crowd.kp E.b_check_crowd (pda_cons (pd_n 0) (pda_nil)))) (psd_one (psd_ret (pd_callT ok_tuple E.z_tuple (by decide +kernel) (pda_cons (pd_lc (own := [("x", 1), ("y", 2)]) (tgs := [1, 2]) rfl sc.nd (pid_seq (pd_n 0)) (by (show blkC ["crowd", "x", "y"] (defScope s_mirrored) _ _ = true); decide +kernel) (by decide) (fun _ _ _ _ _ => pgd_tup rfl (pgds_cons (pgd_n (i := 1) sc.nd) (pgds_cons (pgd_n (i := 2) sc.nd) (pgds_nil (tg := []))))) (fun _ _ _ _ _ => ptsd_nil) (fun _ _ _ _ _ => pd_tup (pda_cons (pd_neg (pd_n 1)) (pda_cons (pd_n 2) (pda_nil))))) (pda_nil)))))) vc_mirrored
def S_near_enough : Dl.Spec := datS fun ds k => ∃ c, ds = [crowdD c] ∧ c.length ≤ 1000 ∧ (∀ p ∈ c, -10000 ≤ p.1 ∧ p.1 ≤ 10000 ∧ -10000 ≤ p.2 ∧ p.2 ≤ 10000) ∧ k (.dat (crowdD c))
def w_near_enough : WS := wSeq (wIfS (wNotT (wTv (wCB gAll (waC (wLc2 [1, 2] [2] (wiSeq (wN 0)) (stN 1) (wYes) (wiSeq (wN 1)) (stN 2) (wYes) (wBin gLe (wCB gAbs (waC (wN 2) (waN))) (wD (.int 10000)))) (waN))))) (wNo) (wNil)) (wRet (wN 0))
theorem vc_near_enough : ∀ as rs Qd, ArRs as rs → rs.length = 1 → S_near_enough as Qd → w_near_enough (fin rs Qd) (gm0 3 rs) := vc_dat fun ds k hn hp => by
  obtain ⟨c, rfl, hl, hb, q⟩ := hp
  show w_near_enough (finD k) [some (.dat (crowdD c)), none, none]
  conv => whnf
  refine lc2_rule (fun r acc Γ => ∃ post : List (Int × Int), r = post.map dotD ∧ (∀ p ∈ post, p ∈ c) ∧ Γ = [some (.dat (crowdD c)), none, none] ∧ acc = List.replicate acc.length (.bl true) ∧ acc.length + 2 * r.length ≤ 2000) (fun _ _ _ _ => True.intro) (fun acc Γ hI => ?_) (fun d r acc Γ K hI hK => ?_) _ _ _ ⟨c, rfl, fun _ h => h, rfl, rfl, by simp; omega⟩
  · obtain ⟨post, er, _, rfl, ha, _⟩ := hI
    have e1 : bls acc = some (List.replicate acc.length true) := by
      rw [ha, List.length_replicate]
      have := bls_id (List.replicate acc.length true)
      rw [List.map_replicate] at this
      exact this
    have e2 : (List.replicate acc.length true).all id = true := by simp
    repeat (first | (refine And.intro rfl ?_) | (refine And.intro True.intro ?_) | (refine And.intro ⟨rfl, rfl⟩ ?_) | (refine And.intro ⟨rfl, True.intro⟩ ?_) | (refine And.intro (by first | assumption | omega | exact .inr (.inl (fm_small _ (by decide) (by decide))) | (simp [put, wipeG]; done) | (simp [put, wipeG]; omega)) ?_) | (intro _))
    conv => whnf
    simp only [e1]
    conv => whnf
    simp only [e2]
    exact q
  · obtain ⟨post, er, hm, rfl, ha, hl⟩ := hI
    cases post with
    | nil => simp at er
    | cons p post =>
      simp only [List.map_cons, List.cons.injEq] at er
      obtain ⟨rfl, rfl⟩ := er
      have hp := hb p (hm p (by simp))
      simp only [List.length_cons, List.length_map] at hl
      have a1 : (if p.1 < 0 then -p.1 else p.1) ≤ 10000 := by split <;> omega
      have a2 : (if p.2 < 0 then -p.2 else p.2) ≤ 10000 := by split <;> omega
      repeat (first | (refine And.intro rfl ?_) | (refine And.intro True.intro ?_) | (refine And.intro ⟨rfl, rfl⟩ ?_) | (refine And.intro ⟨rfl, True.intro⟩ ?_) | (refine And.intro (by first | assumption | omega | exact .inr (.inl (fm_small _ (by decide) (by decide))) | (simp [put, wipeG]; done) | (simp [put, wipeG]; omega)) ?_) | (intro _))
      rw [decide_eq_true a1, decide_eq_true a2]
      refine hK _ _ ⟨post, rfl, fun q hq => hm q (List.mem_cons_of_mem _ hq), rfl, ?_, by simp; omega⟩
      rw [ha]
      simp [List.replicate_succ']
theorem ok_near_enough (E : Fx K mg) : FnG P w K mg base CX0 1 E.f_near_enough E.d_near_enough ["crowd"] (spOf K 1 S_near_enough) := fn_data E.F_near_enough sc_near_enough (wb := w_near_enough) (fun c hK cdv A outer s H Ex hr hgd => by
  subst hK
  have hu1 := hu_of hr
  have hu0 := Nat.lt_of_succ_lt hu1
  have hr65 := unit65 hr
  have sc := sc_near_enough
  exact psd_cons (psd_if (ptd_not (ptd_val (pd_callB (ok_all rfl) E.z_all (by decide +kernel) (pda_cons (pd_lc2 (own := [("dot", 1), ("one", 2)]) (vs1 := [2]) (tgs := [1]) (tgs1 := [2]) rfl sc.nd (pid_seq (pd_n 0)) (by (show blkC ["crowd", "dot", "one"] (defScope s_near_enough) _ _ = true); decide +kernel) (by decide) (by decide) (by decide) (fun _ _ _ _ _ => pgd_n (i := 1) sc.nd) (fun _ _ _ _ _ => ptsd_nil) (fun _ _ _ _ _ => pid_seq (pd_n 1)) (fun _ _ _ _ _ => pgd_n (i := 2) sc.nd) (fun _ _ _ _ _ => ptsd_nil) (fun _ _ _ _ _ => pd_cmp ok_le (pd_callB ok_abs E.z_abs (by decide +kernel) (pda_cons (pd_n 2) (pda_nil))) (pd_gint E.m_MOST_PLACE))) (pda_nil))))) (psd_one (psd_no)) (psd_nil)) (psd_one (psd_ret (pd_n 0)))) vc_near_enough
def S_moved : Dl.Spec := datS fun ds k => ∃ c b, ds = [crowdD c, dotD b] ∧ CrowdOk c ∧ isDot (dotD b) = true ∧ (∀ p ∈ c.map (fun p => (p.1 + b.1, p.2 + b.2)), -10000 ≤ p.1 ∧ p.1 ≤ 10000 ∧ -10000 ≤ p.2 ∧ p.2 ≤ 10000) ∧ k (.dat (crowdD (c.map fun p => (p.1 + b.1, p.2 + b.2))))
def w_moved : WS := wSeq (wDrop (wCall 1 S_check_crowd (waC (wN 0) (waN)))) (wSeq (wDrop (wCall 1 S_check_dots (waC (wTup (waC (wN 1) (waN))) (waN)))) (wRet (wCall 1 S_near_enough (waC (wCB gTuple (waC (wLc [2, 3] (wiSeq (wN 0)) (stTup 2 (stCons (stN 2) (stCons (stN 3) (stNil)))) (wYes) (wTup (waC (wBin gAdd (wN 2) (wBin gAt (wN 1) (wD (.int 0)))) (waC (wBin gAdd (wN 3) (wBin gAt (wN 1) (wD (.int 1)))) (waN))))) (waN))) (waN)))))
def addF (b : Int × Int) : D → D
  | .tup [.int x, .int y] => dotD (x + b.1, y + b.2)
  | d => d
theorem vc_moved : ∀ as rs Qd, ArRs as rs → rs.length = 2 → S_moved as Qd → w_moved (fin rs Qd) (gm0 4 rs) := vc_dat fun ds k hn hp => by
  obtain ⟨c, b, rfl, hc, hb, hm, q⟩ := hp
  have c12 := hc.many
  show w_moved (finD k) [some (.dat (crowdD c)), some (.dat (dotD b)), none, none]
  repeat (first | (refine And.intro rfl ?_) | (refine And.intro True.intro ?_) | (refine And.intro ⟨rfl, rfl⟩ ?_) | (refine And.intro ⟨rfl, True.intro⟩ ?_) | (refine And.intro (by first | assumption | omega | exact .inr (.inl (fm_small _ (by decide) (by decide))) | (simp [put, wipeG]; done) | (simp [put, wipeG]; omega)) ?_) | (intro _))
  refine ⟨[_], rfl, pl_crowd c, crowd_is hc, ?_⟩
  repeat (first | (refine And.intro rfl ?_) | (refine And.intro True.intro ?_) | (refine And.intro ⟨rfl, rfl⟩ ?_) | (refine And.intro ⟨rfl, True.intro⟩ ?_) | (refine And.intro (by first | assumption | omega | exact .inr (.inl (fm_small _ (by decide) (by decide))) | (simp [put, wipeG]; done) | (simp [put, wipeG]; omega)) ?_) | (intro _))
  refine ⟨[_], rfl, by simp [pl_dot], by simp [hb], by simp, ?_⟩
  conv => whnf
  refine lc_map (addF b) _ _ (by rw [List.length_map]; omega) True.intro (fun d hd K hK => ?_) ?_
  · obtain ⟨p, _, rfl⟩ := List.mem_map.mp hd
    repeat (first | (refine And.intro rfl ?_) | (refine And.intro True.intro ?_) | (refine And.intro ⟨rfl, rfl⟩ ?_) | (refine And.intro ⟨rfl, True.intro⟩ ?_) | (refine And.intro (by first | assumption | omega | exact .inr (.inl (fm_small _ (by decide) (by decide))) | (simp [put, wipeG]; done) | (simp [put, wipeG]; omega)) ?_) | (intro _))
    exact hK
  · have e : (c.map dotD).map (addF b) = (c.map fun p => (p.1 + b.1, p.2 + b.2)).map dotD := by
      rw [List.map_map, List.map_map]
      rfl
    rw [e]
    repeat (first | (refine And.intro rfl ?_) | (refine And.intro True.intro ?_) | (refine And.intro ⟨rfl, rfl⟩ ?_) | (refine And.intro ⟨rfl, True.intro⟩ ?_) | (refine And.intro (by first | assumption | omega | exact .inr (.inl (fm_small _ (by decide) (by decide))) | (simp [put, wipeG]; done) | (simp [put, wipeG]; omega)) ?_) | (intro _))
    exact ⟨[_], rfl, _, rfl, by rw [List.length_map]; omega, hm, q⟩
theorem ok_moved (E : Fx K mg) : FnG P w K mg base CX0 6 E.f_moved E.d_moved ["crowd", "by"] (spOf K 2 S_moved) := fn_data E.F_moved sc_moved (wb := w_moved) (fun c hK cdv A outer s H Ex hr hgd => by
  subst hK
  have hu1 := hu_of hr
  have hu0 := Nat.lt_of_succ_lt hu1
  have hr65 := unit65 hr
  have sc := sc_moved
  exact psd_cons (psd_expr (pd_call (ok_check_crowd E) rfl (hr.mono (by decide)) hgd E.g_check_crowd E.F_check_crowd.kp E.b_check_crowd (pda_cons (pd_n 0) (pda_nil)))) (psd_cons (psd_expr (pd_call (ok_check_dots E) rfl (hr.mono (by decide)) hgd E.g_check_dots E.F_check_dots.kp E.b_check_dots (pda_cons (pd_tup (pda_cons (pd_n 1) (pda_nil))) (pda_nil)))) (psd_one (psd_ret (pd_call (ok_near_enough E) rfl (hr.mono (by decide)) hgd E.g_near_enough E.F_near_enough.kp E.b_near_enough (pda_cons (pd_callT ok_tuple E.z_tuple (by decide +kernel) (pda_cons (pd_lc (own := [("x", 2), ("y", 3)]) (tgs := [2, 3]) rfl sc.nd (pid_seq (pd_n 0)) (by (show blkC ["crowd", "by", "x", "y"] (defScope s_moved) _ _ = true); decide +kernel) (by decide) (fun _ _ _ _ _ => pgd_tup rfl (pgds_cons (pgd_n (i := 2) sc.nd) (pgds_cons (pgd_n (i := 3) sc.nd) (pgds_nil (tg := []))))) (fun _ _ _ _ _ => ptsd_nil) (fun _ _ _ _ _ => pd_tup (pda_cons (pd_bin ok_add (pd_n 2) (pd_sub hu1 (pd_n 1) (pd_int))) (pda_cons (pd_bin ok_add (pd_n 3) (pd_sub hu1 (pd_n 1) (pd_int))) (pda_nil))))) (pda_nil))) (pda_nil))))))) vc_moved
end
end Kd
end Dl
namespace Dl
namespace Kd
open PySem PySem.Spec PyProof.Rows
open L2
section
variable {P : Program} {w : World} {K : PySem.W.Frag} {mg : Str → Option Value} {base : Heap}
def S_lies_between : Dl.Spec := datS fun ds k => match ds with
  | [.tup [.int a0, .int a1], .tup [.int b0, .int b1], .tup [.int c0, .int c1]] => isDot (dotD (a0, a1)) = true ∧ isDot (dotD (b0, b1)) = true ∧ isDot (dotD (c0, c1)) = true ∧ k (.dat (.bl (onI (a0, a1) (b0, b1) (c0, c1))))
  | _ => False
def w_lies_between : WS := wSeq (wIfS (wTv (wBin gNeA (wCall 3 S_raw_area (waC (wN 0) (waC (wN 1) (waC (wN 2) (waN))))) (wD (.int 0)))) (wRet (wD (.bl false))) (wNil)) (wRet (wAndV (wChain gLe gLe (wCB gMin (waC (wBin gAt (wN 0) (wD (.int 0))) (waC (wBin gAt (wN 1) (wD (.int 0))) (waN)))) (wBin gAt (wN 2) (wD (.int 0))) (wCB gMax (waC (wBin gAt (wN 0) (wD (.int 0))) (waC (wBin gAt (wN 1) (wD (.int 0))) (waN))))) (wChain gLe gLe (wCB gMin (waC (wBin gAt (wN 0) (wD (.int 1))) (waC (wBin gAt (wN 1) (wD (.int 1))) (waN)))) (wBin gAt (wN 2) (wD (.int 1))) (wCB gMax (waC (wBin gAt (wN 0) (wD (.int 1))) (waC (wBin gAt (wN 1) (wD (.int 1))) (waN)))))))
theorem vc_lies_between : ∀ as rs Qd, ArRs as rs → rs.length = 3 → S_lies_between as Qd → w_lies_between (fin rs Qd) (gm0 3 rs) := vc_dat fun ds k hn hp => by
  split at hp; rotate_left; exact hp.elim
  rename_i a0 a1 b0 b1 c0 c1
  obtain ⟨h1, h2, h3, q⟩ := hp
  show w_lies_between (finD k) [some (.dat (.tup [.int a0, .int a1])), some (.dat (.tup [.int b0, .int b1])), some (.dat (.tup [.int c0, .int c1]))]
  repeat (first | (refine And.intro rfl ?_) | (refine And.intro True.intro ?_) | (refine And.intro ⟨rfl, rfl⟩ ?_) | (refine And.intro ⟨rfl, True.intro⟩ ?_) | (refine And.intro (by first | assumption | omega | exact .inr (.inl (fm_small _ (by decide) (by decide))) | (simp [put, wipeG]; done) | (simp [put, wipeG]; omega)) ?_) | (intro _))
  refine ⟨[_, _, _], rfl, h1, h2, h3, ?_⟩
  repeat (first | (refine And.intro rfl ?_) | (refine And.intro True.intro ?_) | (refine And.intro ⟨rfl, rfl⟩ ?_) | (refine And.intro ⟨rfl, True.intro⟩ ?_) | (refine And.intro (by first | assumption | omega | exact .inr (.inl (fm_small _ (by decide) (by decide))) | (simp [put, wipeG]; done) | (simp [put, wipeG]; omega)) ?_) | (intro _))
  conv => whnf
  unfold onI btw at q
  by_cases hA : areaI (a0, a1) (b0, b1) (c0, c1) = 0
  · simp only [ne_int, hA, decide_true] at q ⊢
    repeat (first | (refine And.intro rfl ?_) | (refine And.intro True.intro ?_) | (refine And.intro ⟨rfl, rfl⟩ ?_) | (refine And.intro ⟨rfl, True.intro⟩ ?_) | (refine And.intro (by first | assumption | omega | exact .inr (.inl (fm_small _ (by decide) (by decide))) | (simp [put, wipeG]; done) | (simp [put, wipeG]; omega)) ?_) | (intro _))
    conv => whnf
    by_cases e1 : (if b0 < a0 then b0 else a0) ≤ c0
    · simp only [e1, decide_true] at q ⊢
      conv => whnf
      by_cases e2 : c0 ≤ (if a0 < b0 then b0 else a0)
      · simp only [e2, decide_true] at q ⊢
        conv => whnf
        by_cases e3 : (if b1 < a1 then b1 else a1) ≤ c1
        · simp only [e3, decide_true] at q ⊢
          conv => whnf
          exact q
        · simp only [e3, decide_false] at q ⊢
          exact q
      · simp only [e2, decide_false] at q ⊢
        exact q
    · simp only [e1, decide_false] at q ⊢
      exact q
  · simp only [ne_int, hA, decide_false] at q ⊢
    exact q
theorem ok_lies_between (E : Fx K mg) : FnG P w K mg base CX0 2 E.f_lies_between E.d_lies_between ["a", "b", "c"] (spOf K 3 S_lies_between) := fn_data E.F_lies_between sc_lies_between (wb := w_lies_between) (fun c hK cdv A outer s H Ex hr hgd => by
  subst hK
  have hu1 := hu_of hr
  have hu0 := Nat.lt_of_succ_lt hu1
  have hr65 := unit65 hr
  have sc := sc_lies_between
  exact psd_cons (psd_if (ptd_cmp (ok_neA hr.units) (pd_call (ok_raw_area E) rfl (hr.mono (by decide)) hgd E.g_raw_area E.F_raw_area.kp E.b_raw_area (pda_cons (pd_n 0) (pda_cons (pd_n 1) (pda_cons (pd_n 2) (pda_nil))))) (pd_int)) (psd_one (psd_ret (pd_bl))) (psd_nil)) (psd_one (psd_ret (pd_and (pd_chain ok_le ok_le (pd_callB (ok_min rfl) E.z_min (by decide +kernel) (pda_cons (pd_sub hu1 (pd_n 0) (pd_int)) (pda_cons (pd_sub hu1 (pd_n 1) (pd_int)) (pda_nil)))) (pd_sub hu1 (pd_n 2) (pd_int)) (pd_callB (ok_max rfl) E.z_max (by decide +kernel) (pda_cons (pd_sub hu1 (pd_n 0) (pd_int)) (pda_cons (pd_sub hu1 (pd_n 1) (pd_int)) (pda_nil))))) (pd_one (pd_chain ok_le ok_le (pd_callB (ok_min rfl) E.z_min (by decide +kernel) (pda_cons (pd_sub hu1 (pd_n 0) (pd_int)) (pda_cons (pd_sub hu1 (pd_n 1) (pd_int)) (pda_nil)))) (pd_sub hu1 (pd_n 2) (pd_int)) (pd_callB (ok_max rfl) E.z_max (by decide +kernel) (pda_cons (pd_sub hu1 (pd_n 0) (pd_int)) (pda_cons (pd_sub hu1 (pd_n 1) (pd_int)) (pda_nil)))))))))) vc_lies_between
def S_ways_meet : Dl.Spec := datS fun ds k => match ds with
  | [.tup [.int a0, .int a1], .tup [.int b0, .int b1], .tup [.int c0, .int c1], .tup [.int d0, .int d1]] => isDot (dotD (a0, a1)) = true ∧ isDot (dotD (b0, b1)) = true ∧ isDot (dotD (c0, c1)) = true ∧ isDot (dotD (d0, d1)) = true ∧ k (.dat (.bl (meetI (a0, a1) (b0, b1) (c0, c1) (d0, d1))))
  | _ => False
def w_ways_meet : WS := wSeq (wIfS (wAndT (wTv (wBin gLt (wBin gMul (wCall 3 S_raw_turn (waC (wN 0) (waC (wN 1) (waC (wN 2) (waN))))) (wCall 3 S_raw_turn (waC (wN 0) (waC (wN 1) (waC (wN 3) (waN)))))) (wD (.int 0)))) (wTv (wBin gLt (wBin gMul (wCall 3 S_raw_turn (waC (wN 2) (waC (wN 3) (waC (wN 0) (waN))))) (wCall 3 S_raw_turn (waC (wN 2) (waC (wN 3) (waC (wN 1) (waN)))))) (wD (.int 0))))) (wRet (wD (.bl true))) (wNil)) (wRet (wOrV (wCall 3 S_lies_between (waC (wN 0) (waC (wN 1) (waC (wN 2) (waN))))) (wOrV (wCall 3 S_lies_between (waC (wN 0) (waC (wN 1) (waC (wN 3) (waN))))) (wOrV (wCall 3 S_lies_between (waC (wN 2) (waC (wN 3) (waC (wN 0) (waN))))) (wCall 3 S_lies_between (waC (wN 2) (waC (wN 3) (waC (wN 1) (waN)))))))))
def t_ways_meet_1 : WS := wRet (wOrV (wCall 3 S_lies_between (waC (wN 0) (waC (wN 1) (waC (wN 2) (waN))))) (wOrV (wCall 3 S_lies_between (waC (wN 0) (waC (wN 1) (waC (wN 3) (waN))))) (wOrV (wCall 3 S_lies_between (waC (wN 2) (waC (wN 3) (waC (wN 0) (waN))))) (wCall 3 S_lies_between (waC (wN 2) (waC (wN 3) (waC (wN 1) (waN))))))))
theorem vc_ways_meet : ∀ as rs Qd, ArRs as rs → rs.length = 4 → S_ways_meet as Qd → w_ways_meet (fin rs Qd) (gm0 4 rs) := vc_dat fun ds k hn hp => by
  split at hp; rotate_left; exact hp.elim
  rename_i a0 a1 b0 b1 c0 c1 d0 d1
  obtain ⟨h1, h2, h3, h4, q⟩ := hp
  have t1 := sgn_small (areaI (a0, a1) (b0, b1) (c0, c1))
  have t2 := sgn_small (areaI (c0, c1) (d0, d1) (a0, a1))
  have tail : (onI (a0, a1) (b0, b1) (c0, c1) || (onI (a0, a1) (b0, b1) (d0, d1) || (onI (c0, c1) (d0, d1) (a0, a1) || onI (c0, c1) (d0, d1) (b0, b1)))) = meetI (a0, a1) (b0, b1) (c0, c1) (d0, d1) →
      t_ways_meet_1 (finD k) [some (.dat (.tup [.int a0, .int a1])), some (.dat (.tup [.int b0, .int b1])), some (.dat (.tup [.int c0, .int c1])), some (.dat (.tup [.int d0, .int d1]))] := fun e => by
    rw [← e] at q
    repeat (first | (refine And.intro rfl ?_) | (refine And.intro True.intro ?_) | (refine And.intro ⟨rfl, rfl⟩ ?_) | (refine And.intro ⟨rfl, True.intro⟩ ?_) | (refine And.intro (by first | assumption | omega | exact .inr (.inl (fm_small _ (by decide) (by decide))) | (simp [put, wipeG]; done) | (simp [put, wipeG]; omega)) ?_) | (intro _))
    refine ⟨[_, _, _], rfl, h1, h2, h3, ?_⟩
    cases e1 : onI (a0, a1) (b0, b1) (c0, c1) with
    | true => rw [e1] at q; exact q
    | false =>
      rw [e1] at q
      repeat (first | (refine And.intro rfl ?_) | (refine And.intro True.intro ?_) | (refine And.intro ⟨rfl, rfl⟩ ?_) | (refine And.intro ⟨rfl, True.intro⟩ ?_) | (refine And.intro (by first | assumption | omega | exact .inr (.inl (fm_small _ (by decide) (by decide))) | (simp [put, wipeG]; done) | (simp [put, wipeG]; omega)) ?_) | (intro _))
      refine ⟨[_, _, _], rfl, h1, h2, h4, ?_⟩
      cases e2 : onI (a0, a1) (b0, b1) (d0, d1) with
      | true => rw [e2] at q; exact q
      | false =>
        rw [e2] at q
        repeat (first | (refine And.intro rfl ?_) | (refine And.intro True.intro ?_) | (refine And.intro ⟨rfl, rfl⟩ ?_) | (refine And.intro ⟨rfl, True.intro⟩ ?_) | (refine And.intro (by first | assumption | omega | exact .inr (.inl (fm_small _ (by decide) (by decide))) | (simp [put, wipeG]; done) | (simp [put, wipeG]; omega)) ?_) | (intro _))
        refine ⟨[_, _, _], rfl, h3, h4, h1, ?_⟩
        cases e3 : onI (c0, c1) (d0, d1) (a0, a1) with
        | true => rw [e3] at q; exact q
        | false =>
          rw [e3] at q
          repeat (first | (refine And.intro rfl ?_) | (refine And.intro True.intro ?_) | (refine And.intro ⟨rfl, rfl⟩ ?_) | (refine And.intro ⟨rfl, True.intro⟩ ?_) | (refine And.intro (by first | assumption | omega | exact .inr (.inl (fm_small _ (by decide) (by decide))) | (simp [put, wipeG]; done) | (simp [put, wipeG]; omega)) ?_) | (intro _))
          exact ⟨[_, _, _], rfl, h3, h4, h2, q⟩
  show w_ways_meet (finD k) [some (.dat (.tup [.int a0, .int a1])), some (.dat (.tup [.int b0, .int b1])), some (.dat (.tup [.int c0, .int c1])), some (.dat (.tup [.int d0, .int d1]))]
  unfold meetI at tail
  unfold meetI crossI at q
  unfold crossI at tail
  unfold turnI at q tail
  repeat (first | (refine And.intro rfl ?_) | (refine And.intro True.intro ?_) | (refine And.intro ⟨rfl, rfl⟩ ?_) | (refine And.intro ⟨rfl, True.intro⟩ ?_) | (refine And.intro (by first | assumption | omega | exact .inr (.inl (fm_small _ (by decide) (by decide))) | (simp [put, wipeG]; done) | (simp [put, wipeG]; omega)) ?_) | (intro _))
  refine ⟨[_, _, _], rfl, h1, h2, h3, ?_⟩
  repeat (first | (refine And.intro rfl ?_) | (refine And.intro True.intro ?_) | (refine And.intro ⟨rfl, rfl⟩ ?_) | (refine And.intro ⟨rfl, True.intro⟩ ?_) | (refine And.intro (by first | assumption | omega | exact .inr (.inl (fm_small _ (by decide) (by decide))) | (simp [put, wipeG]; done) | (simp [put, wipeG]; omega)) ?_) | (intro _))
  refine ⟨[_, _, _], rfl, h1, h2, h4, ?_⟩
  unfold turnI
  repeat (first | (refine And.intro rfl ?_) | (refine And.intro True.intro ?_) | (refine And.intro ⟨rfl, rfl⟩ ?_) | (refine And.intro ⟨rfl, True.intro⟩ ?_) | (refine And.intro (by first | assumption | omega | exact .inr (.inl (fm_small _ (by decide) (by decide))) | (simp [put, wipeG]; done) | (simp [put, wipeG]; omega)) ?_) | (intro _))
  conv => whnf
  by_cases hA : sgn (areaI (a0, a1) (b0, b1) (c0, c1)) * sgn (areaI (a0, a1) (b0, b1) (d0, d1)) < 0
  · simp only [hA, decide_true] at q tail ⊢
    repeat (first | (refine And.intro rfl ?_) | (refine And.intro True.intro ?_) | (refine And.intro ⟨rfl, rfl⟩ ?_) | (refine And.intro ⟨rfl, True.intro⟩ ?_) | (refine And.intro (by first | assumption | omega | exact .inr (.inl (fm_small _ (by decide) (by decide))) | (simp [put, wipeG]; done) | (simp [put, wipeG]; omega)) ?_) | (intro _))
    refine ⟨[_, _, _], rfl, h3, h4, h1, ?_⟩
    repeat (first | (refine And.intro rfl ?_) | (refine And.intro True.intro ?_) | (refine And.intro ⟨rfl, rfl⟩ ?_) | (refine And.intro ⟨rfl, True.intro⟩ ?_) | (refine And.intro (by first | assumption | omega | exact .inr (.inl (fm_small _ (by decide) (by decide))) | (simp [put, wipeG]; done) | (simp [put, wipeG]; omega)) ?_) | (intro _))
    refine ⟨[_, _, _], rfl, h3, h4, h2, ?_⟩
    unfold turnI
    repeat (first | (refine And.intro rfl ?_) | (refine And.intro True.intro ?_) | (refine And.intro ⟨rfl, rfl⟩ ?_) | (refine And.intro ⟨rfl, True.intro⟩ ?_) | (refine And.intro (by first | assumption | omega | exact .inr (.inl (fm_small _ (by decide) (by decide))) | (simp [put, wipeG]; done) | (simp [put, wipeG]; omega)) ?_) | (intro _))
    conv => whnf
    by_cases hB : sgn (areaI (c0, c1) (d0, d1) (a0, a1)) * sgn (areaI (c0, c1) (d0, d1) (b0, b1)) < 0
    · simp only [hB, decide_true] at q ⊢
      exact q
    · simp only [hB, decide_false, Bool.and_false, Bool.false_or] at tail ⊢
      first | exact tail rfl | exact tail True.intro
  · simp only [hA, decide_false, Bool.false_and, Bool.false_or] at tail ⊢
    first | exact tail rfl | exact tail True.intro
theorem ok_ways_meet (E : Fx K mg) : FnG P w K mg base CX0 3 E.f_ways_meet E.d_ways_meet ["a", "b", "c", "d"] (spOf K 4 S_ways_meet) := fn_data E.F_ways_meet sc_ways_meet (wb := w_ways_meet) (fun c hK cdv A outer s H Ex hr hgd => by
  subst hK
  have hu1 := hu_of hr
  have hu0 := Nat.lt_of_succ_lt hu1
  have hr65 := unit65 hr
  have sc := sc_ways_meet
  exact psd_cons (psd_if (L2.PW.pt (pwd_and (ptd_cmp ok_lt (pd_bin ok_mul (pd_call (ok_raw_turn E) rfl (hr.mono (by decide)) hgd E.g_raw_turn E.F_raw_turn.kp E.b_raw_turn (pda_cons (pd_n 0) (pda_cons (pd_n 1) (pda_cons (pd_n 2) (pda_nil))))) (pd_call (ok_raw_turn E) rfl (hr.mono (by decide)) hgd E.g_raw_turn E.F_raw_turn.kp E.b_raw_turn (pda_cons (pd_n 0) (pda_cons (pd_n 1) (pda_cons (pd_n 3) (pda_nil)))))) (pd_int)) (pwd_and1 (ptd_cmp ok_lt (pd_bin ok_mul (pd_call (ok_raw_turn E) rfl (hr.mono (by decide)) hgd E.g_raw_turn E.F_raw_turn.kp E.b_raw_turn (pda_cons (pd_n 2) (pda_cons (pd_n 3) (pda_cons (pd_n 0) (pda_nil))))) (pd_call (ok_raw_turn E) rfl (hr.mono (by decide)) hgd E.g_raw_turn E.F_raw_turn.kp E.b_raw_turn (pda_cons (pd_n 2) (pda_cons (pd_n 3) (pda_cons (pd_n 1) (pda_nil)))))) (pd_int))))) (psd_one (psd_ret (pd_bl))) (psd_nil)) (psd_one (psd_ret (pd_or (pd_call (ok_lies_between E) rfl (hr.mono (by decide)) hgd E.g_lies_between E.F_lies_between.kp E.b_lies_between (pda_cons (pd_n 0) (pda_cons (pd_n 1) (pda_cons (pd_n 2) (pda_nil))))) (pd_or (pd_call (ok_lies_between E) rfl (hr.mono (by decide)) hgd E.g_lies_between E.F_lies_between.kp E.b_lies_between (pda_cons (pd_n 0) (pda_cons (pd_n 1) (pda_cons (pd_n 3) (pda_nil))))) (pd_or (pd_call (ok_lies_between E) rfl (hr.mono (by decide)) hgd E.g_lies_between E.F_lies_between.kp E.b_lies_between (pda_cons (pd_n 2) (pda_cons (pd_n 3) (pda_cons (pd_n 0) (pda_nil))))) (pd_one (pd_call (ok_lies_between E) rfl (hr.mono (by decide)) hgd E.g_lies_between E.F_lies_between.kp E.b_lies_between (pda_cons (pd_n 2) (pda_cons (pd_n 3) (pda_cons (pd_n 1) (pda_nil)))))))))))) vc_ways_meet
end
end Kd
end Dl
namespace Dl
namespace Kd
open PySem PySem.Spec PyProof.Rows
open L2
section
variable {P : Program} {w : World} {K : PySem.W.Frag} {mg : Str → Option Value} {base : Heap}
theorem on_free {a b c : Int × Int} (h : areaI a b c ≠ 0) : onI a b c = false := by
  unfold onI
  simp [h]
theorem meet_free {p q r s : Int × Int} (h1 : areaI q r s ≠ 0) (h2 : areaI p r s ≠ 0) (h3 : areaI p q s ≠ 0) (h4 : areaI p q r ≠ 0) : meetI p q r s = crB p q r s := by
  unfold meetI
  rw [on_free h4, on_free h3, on_free (a := r) (b := s) (c := p) (by rw [area_round p r s]; exact h2), on_free (a := r) (b := s) (c := q) (by rw [area_round q r s]; exact h1)]
  simp only [Bool.or_false]
  rfl
/-! ### a pairing without a crossing: every crossing can be taken out -/
theorem area_dep (p q r1 b1 r2 b2 : Int × Int) : areaI r2 b2 b1 * areaI p q r1 - areaI r2 b2 r1 * areaI p q b1 + areaI r1 b1 b2 * areaI p q r2 - areaI r1 b1 r2 * areaI p q b2 = 0 := by
  unfold areaI
  grind
theorem area_dep0 (r1 b1 r2 b2 : Int × Int) : areaI r2 b2 b1 - areaI r2 b2 r1 + areaI r1 b1 b2 - areaI r1 b1 r2 = 0 := by
  unfold areaI
  grind
theorem sgn_is (x : Int) : (0 < x ∧ sgn x = 1) ∨ (x = 0 ∧ sgn x = 0) ∨ (x < 0 ∧ sgn x = -1) := by
  unfold sgn
  split <;> split <;> omega
theorem mul_sgn_neg {x y : Int} (h : sgn x * sgn y < 0) : (0 < x ∧ y < 0) ∨ (x < 0 ∧ 0 < y) := by
  rcases sgn_is x with ⟨a, e⟩ | ⟨a, e⟩ | ⟨a, e⟩ <;> rcases sgn_is y with ⟨b, f⟩ | ⟨b, f⟩ | ⟨b, f⟩ <;> rw [e, f] at h <;> omega
/-- four numbers, positive, that weigh the ends against each other -/
theorem cross_dep {r1 b1 r2 b2 : Int × Int} (h : crB r1 b1 r2 b2 = true) : ∃ k l m n : Int, 0 < k ∧ 0 < l ∧ 0 < m ∧ 0 < n ∧ (∀ p q, k * areaI p q r1 + l * areaI p q b1 = m * areaI p q r2 + n * areaI p q b2) ∧ (areaI r1 b1 b2 = m ∨ areaI r1 b1 b2 = -m) := by
  simp only [crB, sepB, Bool.and_eq_true, decide_eq_true_eq] at h
  obtain ⟨h1, h2⟩ := h
  have h1 := mul_sgn_neg h1
  have h2 := mul_sgn_neg h2
  have e0 := area_dep0 r1 b1 r2 b2
  have e := fun p q => area_dep p q r1 b1 r2 b2
  rcases h2 with ⟨a1, a2⟩ | ⟨a1, a2⟩
  · have a3 : areaI r1 b1 b2 > 0 ∧ areaI r1 b1 r2 < 0 := by omega
    refine ⟨-areaI r2 b2 b1, areaI r2 b2 r1, areaI r1 b1 b2, -areaI r1 b1 r2, by omega, by omega, by omega, by omega, fun p q => ?_, .inl rfl⟩
    have := e p q
    simp only [Int.neg_mul]
    omega
  · have a3 : areaI r1 b1 b2 < 0 ∧ areaI r1 b1 r2 > 0 := by omega
    refine ⟨areaI r2 b2 b1, -areaI r2 b2 r1, -areaI r1 b1 b2, areaI r1 b1 r2, by omega, by omega, by omega, by omega, fun p q => ?_, .inr (by omega)⟩
    have := e p q
    simp only [Int.neg_mul]
    omega
/-- how far two dots are by one line -/
def offI (p q u v : Int × Int) : Nat := (turnI p q u - turnI p q v).natAbs
theorem off_le {r1 b1 r2 b2 : Int × Int} (h : crB r1 b1 r2 b2 = true) (p q : Int × Int) : offI p q r1 b2 + offI p q r2 b1 ≤ offI p q r1 b1 + offI p q r2 b2 := by
  obtain ⟨k, l, m, n, hk, hl, hm, hn, e, _⟩ := cross_dep h
  have e := e p q
  have pos : ∀ {x y : Int}, 0 < x → 0 < y → 0 < x * y := fun a b => Int.mul_pos a b
  have neg : ∀ {x y : Int}, 0 < x → y < 0 → x * y < 0 := fun a b => Int.mul_neg_of_pos_of_neg a b
  unfold offI turnI
  generalize areaI p q r1 = w at e ⊢
  generalize areaI p q b1 = x at e ⊢
  generalize areaI p q r2 = y at e ⊢
  generalize areaI p q b2 = z at e ⊢
  rcases sgn_is w with ⟨a1, s1⟩ | ⟨a1, s1⟩ | ⟨a1, s1⟩ <;> rcases sgn_is x with ⟨a2, s2⟩ | ⟨a2, s2⟩ | ⟨a2, s2⟩ <;> rcases sgn_is y with ⟨a3, s3⟩ | ⟨a3, s3⟩ | ⟨a3, s3⟩ <;> rcases sgn_is z with ⟨a4, s4⟩ | ⟨a4, s4⟩ | ⟨a4, s4⟩ <;> rw [s1, s2, s3, s4] <;> first
    | decide
    | (exfalso
       have f1 : (0 < w → 0 < k * w) ∧ (w < 0 → k * w < 0) ∧ (w = 0 → k * w = 0) := ⟨fun a => pos hk a, fun a => neg hk a, fun a => by rw [a, Int.mul_zero]⟩
       have f2 : (0 < x → 0 < l * x) ∧ (x < 0 → l * x < 0) ∧ (x = 0 → l * x = 0) := ⟨fun a => pos hl a, fun a => neg hl a, fun a => by rw [a, Int.mul_zero]⟩
       have f3 : (0 < y → 0 < m * y) ∧ (y < 0 → m * y < 0) ∧ (y = 0 → m * y = 0) := ⟨fun a => pos hm a, fun a => neg hm a, fun a => by rw [a, Int.mul_zero]⟩
       have f4 : (0 < z → 0 < n * z) ∧ (z < 0 → n * z < 0) ∧ (z = 0 → n * z = 0) := ⟨fun a => pos hn a, fun a => neg hn a, fun a => by rw [a, Int.mul_zero]⟩
       omega)
theorem off_lt {r1 b1 r2 b2 : Int × Int} (h : crB r1 b1 r2 b2 = true) : offI r1 b2 r1 b2 + offI r1 b2 r2 b1 < offI r1 b2 r1 b1 + offI r1 b2 r2 b2 := by
  obtain ⟨k, l, m, n, hk, hl, hm, hn, e, em⟩ := cross_dep h
  have e := e r1 b2
  have z1 : areaI r1 b2 r1 = 0 := by unfold areaI; grind
  have z2 : areaI r1 b2 b2 = 0 := by unfold areaI; grind
  have z3 : areaI r1 b2 b1 = -areaI r1 b1 b2 := by unfold areaI; grind
  rw [z1, z2, Int.mul_zero, Int.mul_zero, Int.zero_add, Int.add_zero] at e
  have ne : areaI r1 b2 b1 ≠ 0 := by omega
  have pos : ∀ {x y : Int}, 0 < x → 0 < y → 0 < x * y := fun a b => Int.mul_pos a b
  have neg : ∀ {x y : Int}, 0 < x → y < 0 → x * y < 0 := fun a b => Int.mul_neg_of_pos_of_neg a b
  unfold offI turnI
  rw [z1, z2]
  generalize areaI r1 b2 b1 = x at e ne ⊢
  generalize areaI r1 b2 r2 = y at e ⊢
  rcases sgn_is x with ⟨a2, s2⟩ | ⟨a2, s2⟩ | ⟨a2, s2⟩ <;> rcases sgn_is y with ⟨a3, s3⟩ | ⟨a3, s3⟩ | ⟨a3, s3⟩ <;> rw [s2, s3] <;> first
    | decide
    | (exfalso
       have f2 : (0 < x → 0 < l * x) ∧ (x < 0 → l * x < 0) ∧ (x = 0 → l * x = 0) := ⟨fun a => pos hl a, fun a => neg hl a, fun a => by rw [a, Int.mul_zero]⟩
       have f3 : (0 < y → 0 < m * y) ∧ (y < 0 → m * y < 0) ∧ (y = 0 → m * y = 0) := ⟨fun a => pos hm a, fun a => neg hm a, fun a => by rw [a, Int.mul_zero]⟩
       omega)
end
end Kd
end Dl
namespace Dl
namespace Kd
open PySem PySem.Spec PyProof.Rows
open L2
section
variable {P : Program} {w : World} {K : PySem.W.Frag} {mg : Str → Option Value} {base : Heap}
/-! ### all orders, ascending -/
def ordL (B : List Int) : Nat → List (List Int)
  | 0 => [[]]
  | i + 1 => (ordL B i).flatMap fun o => (B.filter fun x => decide (x ∉ o)).map fun x => o ++ [x]
structure OrdOk (B : List Int) (i : Nat) (o : List Int) : Prop where
  nd : o.Nodup
  sub : ∀ x ∈ o, x ∈ B
  len : o.length = i
theorem ord_ok (B : List Int) : ∀ i, ∀ o ∈ ordL B i, OrdOk B i o
  | 0, o, h => by
    rw [List.mem_singleton.mp h]
    exact ⟨by simp, by simp, rfl⟩
  | i + 1, m, h => by
    obtain ⟨o, ho, h⟩ := List.mem_flatMap.mp h
    obtain ⟨x, hx, rfl⟩ := List.mem_map.mp h
    have k := ord_ok B i o ho
    obtain ⟨hx, hno⟩ := List.mem_filter.mp hx
    have hno := of_decide_eq_true hno
    refine ⟨?_, ?_, by rw [List.length_append, k.len]; rfl⟩
    · rw [List.nodup_append]
      exact ⟨k.nd, by simp, fun a ha b hb e => by rw [List.mem_singleton.mp hb] at e; exact hno (e ▸ ha)⟩
    · intro y hy
      rcases List.mem_append.mp hy with hy | hy
      · exact k.sub y hy
      · rw [List.mem_singleton.mp hy]; exact hx
theorem ord_many (B : List Int) (h : B.length ≤ 4) : ∀ i, (ordL B i).length ≤ 4 ^ i
  | 0 => Nat.le_refl _
  | i + 1 => by
    have ih := ord_many B h i
    have key : ∀ L : List (List Int), (L.flatMap fun o => (B.filter fun x => decide (x ∉ o)).map fun x => o ++ [x]).length ≤ 4 * L.length := by
      intro L
      induction L with
      | nil => simp
      | cons o L ih =>
        rw [List.flatMap_cons, List.length_append, List.length_map, List.length_cons]
        have := Nat.le_trans (List.length_filter_le (fun x => decide (x ∉ o)) B) h
        omega
    have := key (ordL B i)
    show ((ordL B i).flatMap _).length ≤ _
    rw [Nat.pow_succ]
    omega
theorem lt_app : ∀ {o m : List Int} (s t : List Int), o.length = m.length → o < m → o ++ s < m ++ t
  | [], [], _, _, _, h => by simp at h
  | [], _ :: _, _, _, e, _ => by simp at e
  | _ :: _, [], _, _, e, _ => by simp at e
  | a :: o, b :: m, s, t, e, h => by
    rw [List.cons_lt_cons_iff] at h
    rw [List.cons_append, List.cons_append, List.cons_lt_cons_iff]
    rcases h with h | ⟨h1, h2⟩
    · exact .inl h
    · exact .inr ⟨h1, lt_app s t (by simpa using e) h2⟩
theorem lt_end : ∀ (o : List Int) {x y : Int}, x < y → o ++ [x] < o ++ [y]
  | [], x, y, h => by
    show [x] < [y]
    rw [List.cons_lt_cons_iff]
    exact .inl h
  | a :: o, x, y, h => by
    rw [List.cons_append, List.cons_append, List.cons_lt_cons_iff]
    exact .inr ⟨rfl, lt_end o h⟩
theorem ord_asc {B : List Int} (h : B.Pairwise (· < ·)) : ∀ i, (ordL B i).Pairwise (· < ·)
  | 0 => by
    show List.Pairwise _ [[]]
    simp
  | i + 1 => by
    have ih := ord_asc h i
    show List.Pairwise _ ((ordL B i).flatMap _)
    rw [List.pairwise_flatMap]
    refine ⟨fun o ho => ?_, ?_⟩
    · rw [List.pairwise_map]
      exact (h.filter _).imp fun hxy => lt_end o hxy
    · refine List.Pairwise.imp_of_mem (fun {o m} ho hm hlt x hx y hy => ?_) ih
      obtain ⟨a, _, rfl⟩ := List.mem_map.mp hx
      obtain ⟨b, _, rfl⟩ := List.mem_map.mp hy
      exact lt_app _ _ (by rw [(ord_ok B i o ho).len, (ord_ok B i m hm).len]) hlt
theorem nd_perm : ∀ {o B : List Int}, o.Nodup → (∀ x ∈ o, x ∈ B) → o.length = B.length → o.Perm B
  | [], B, _, _, hl => by
    rw [List.length_eq_zero_iff.mp hl.symm]
  | x :: o, B, hn, hs, hl => by
    obtain ⟨s, t, rfl⟩ := List.append_of_mem (hs x (by simp))
    rw [List.nodup_cons] at hn
    have ih := nd_perm (o := o) (B := s ++ t) hn.2 (fun y hy => by
      have h1 := hs y (List.mem_cons_of_mem _ hy)
      have h2 : y ≠ x := fun e => hn.1 (e ▸ hy)
      simp only [List.mem_append, List.mem_cons] at h1 ⊢
      rcases h1 with h | h | h
      · exact .inl h
      · exact absurd h h2
      · exact .inr h) (by simp only [List.length_cons, List.length_append] at hl ⊢; omega)
    exact (ih.cons x).trans List.perm_middle.symm
/-- every order stands among them -/
theorem ord_all {B : List Int} : ∀ (i : Nat) (o : List Int), OrdOk B i o → o ∈ ordL B i
  | 0, o, h => by
    rw [List.length_eq_zero_iff.mp h.len]
    exact List.mem_singleton.mpr rfl
  | i + 1, m, h => by
    obtain ⟨o, x, rfl⟩ : ∃ o x, m = o ++ [x] := by
      refine ⟨m.dropLast, m.getLast (fun e => by rw [e] at h; cases h.len), ?_⟩
      rw [List.dropLast_concat_getLast]
    have nd := List.nodup_append.mp h.nd
    refine List.mem_flatMap.mpr ⟨o, ord_all i o ⟨nd.1, fun y hy => h.sub y (List.mem_append_left _ hy), by have := h.len; simp at this; exact this⟩, List.mem_map.mpr ⟨x, List.mem_filter.mpr ⟨h.sub x (by simp), decide_eq_true fun hx => nd.2.2 x hx x (by simp) rfl⟩, rfl⟩⟩
/-! ### all orders -/
theorem in_ints (o : List Int) (x : Int) : ((o.map D.int).any fun d => eqD d (.int x)) = decide (x ∈ o) := by
  rw [List.any_map, Bool.eq_iff_iff, List.any_eq_true, decide_eq_true_eq]
  constructor
  · rintro ⟨y, hy, e⟩
    have e : eqD (.int y) (.int x) = true := e
    rw [ne_int, decide_eq_true_eq] at e
    rw [← e]
    exact hy
  · exact fun hx => ⟨x, hx, by show eqD (.int x) (.int x) = true; rw [ne_int]; simp⟩
def ordF (o : List Int) : D → Option D
  | .int x => if x ∈ o then none else some (.tup (o.map D.int ++ [.int x]))
  | d => some d
theorem ord_map (o : List Int) : ∀ B : List Int, (B.map D.int).filterMap (ordF o) = ((B.filter fun x => decide (x ∉ o)).map fun x => o ++ [x]).map lotD
  | [] => rfl
  | x :: B => by
    rw [List.map_cons, List.filterMap_cons, List.filter_cons, ord_map o B]
    rw [show ordF o (.int x) = if x ∈ o then none else some (.tup (o.map D.int ++ [.int x])) from rfl]
    by_cases h : x ∈ o
    · rw [if_pos h]
      simp [h]
    · rw [if_neg h]
      simp [h, lotD]
theorem ord_big (B : List Int) (h : B.length ≤ 5) : ∀ i, (ordL B i).length ≤ 5 ^ i
  | 0 => Nat.le_refl _
  | i + 1 => by
    have ih := ord_big B h i
    have key : ∀ L : List (List Int), (L.flatMap fun o => (B.filter fun x => decide (x ∉ o)).map fun x => o ++ [x]).length ≤ 5 * L.length := by
      intro L
      induction L with
      | nil => simp
      | cons o L ih =>
        rw [List.flatMap_cons, List.length_append, List.length_map, List.length_cons]
        have := Nat.le_trans (List.length_filter_le (fun x => decide (x ∉ o)) B) h
        omega
    have := key (ordL B i)
    show ((ordL B i).flatMap _).length ≤ _
    rw [Nat.pow_succ]
    omega
def ordN (n : Nat) : List (List Int) := ordL (idL n) n
def S_all_orders : Dl.Spec := datS fun ds k => ∃ n : Nat, ds = [.int (n : Nat)] ∧ n ≤ 5 ∧ (k (.lst ((ordN n).map lotD)) ∧ k (.dat (.lst ((ordN n).map lotD))))
def w_all_orders : WS := wSeq (wAsg (wLst (waC (wTup (waN)) (waN))) (stN 1)) (wSeq (wFor (wiR1 (waC (wN 0) (waN))) (stN 2) (wSeq (wAsg (wLst (waN)) (stN 3)) (wSeq (wFor (wiSeq (wN 1)) (stN 4) (wDrop (wMut mExtend 3 (waC (wLc [5] (wiR1 (waC (wN 0) (waN))) (stN 5) (wTv (wBin gNinT (wN 5) (wN 4))) (wBin gAdd (wN 4) (wTup (waC (wN 5) (waN))))) (waN))))) (wAsg (wN 3) (stN 1))))) (wRet (wN 1)))
theorem vc_all_orders : ∀ as rs Qd, ArRs as rs → rs.length = 1 → S_all_orders as Qd → w_all_orders (fin rs Qd) (gm0 6 rs) := vc_dat fun ds k hn hp => by
  obtain ⟨n, rfl, n5, q⟩ := hp
  have b5 : (idL n).length ≤ 5 := by rw [idL_len]; exact n5
  have il := idL_len n
  show w_all_orders (finD k) [some (.dat (.int (n : Nat))), none, none, none, none, none]
  repeat (first | (dsimp only [put, wipeG, List.set]) | (refine And.intro rfl ?_) | (refine And.intro True.intro ?_) | (refine And.intro ⟨rfl, rfl⟩ ?_) | (refine And.intro ⟨rfl, True.intro⟩ ?_) | (refine And.intro (by first | assumption | omega | exact .inr (.inl (fm_small _ (by decide) (by decide))) | (simp [put, wipeG]; done) | (simp [put, wipeG]; omega)) ?_) | (intro _))
  rename_i a0
  refine loop_rule (fun r Γ => ∃ (i : Nat) (f : R) (y2 y3 y4 y5 : Option R), i + r.length = n ∧ (f = .lst false a0 ((ordL (idL n) i).map lotD) ∨ f = .dat (.lst ((ordL (idL n) i).map lotD))) ∧ Γ = [some (.dat (.int (n : Nat))), some f, y2, y3, y4, y5]) (fun _ _ _ => True.intro) ?_ ?_ _ _ ⟨0, _, none, none, none, none, by simp [rngL], .inl rfl, rfl⟩
  · rintro Γ ⟨i, f, y2, y3, y4, y5, hi, hf, rfl⟩
    have hi : i = n := by simpa using hi
    subst hi
    rcases hf with rfl | rfl
    · exact ⟨rfl, q.1⟩
    · exact q.2
  · rintro d r Γ K ⟨i, f, y2, y3, y4, y5, hi, hf, rfl⟩ hK
    have h256 : (ordL (idL n) i).length ≤ 5 ^ 5 := Nat.le_trans (ord_big (idL n) b5 i) (Nat.pow_le_pow_right (by decide) (by simp at hi; omega))
    rcases hf with rfl | rfl <;> (
      repeat (first | (dsimp only [put, wipeG, List.set]) | (refine And.intro rfl ?_) | (refine And.intro True.intro ?_) | (refine And.intro ⟨rfl, rfl⟩ ?_) | (refine And.intro ⟨rfl, True.intro⟩ ?_) | (refine And.intro (by first | assumption | omega | exact .inr (.inl (fm_small _ (by decide) (by decide))) | (simp [put, wipeG]; done) | (simp [put, wipeG]; omega)) ?_) | (intro _))
      rename_i al
      refine loop_rule (fun rr Γ => ∃ (pre post : List (List Int)) (y4 y5 : Option R), ordL (idL n) i = pre ++ post ∧ rr = post.map lotD ∧ Γ = [some (.dat (.int (n : Nat))), some _, some (.dat d), some (.lst false al ((pre.flatMap fun o => ((idL n).filter fun x => decide (x ∉ o)).map fun x => o ++ [x]).map lotD)), y4, y5]) (fun rr Γ hI => ?_) (fun Γ hI => ?_) (fun dl rr Γ K2 hI hK2 => ?_) _ _ ⟨[], ordL (idL n) i, y4, y5, rfl, rfl, rfl⟩
      · obtain ⟨pre, post, y4, y5, _, _, rfl⟩ := hI
        first | rfl | exact True.intro
      · obtain ⟨pre, post, y4, y5, ep, er, rfl⟩ := hI
        have e0 : post = [] := by
          cases post with
          | nil => rfl
          | cons a b => simp at er
        subst e0
        rw [List.append_nil] at ep
        subst ep
        repeat (first | (dsimp only [put, wipeG, List.set]) | (refine And.intro rfl ?_) | (refine And.intro True.intro ?_) | (refine And.intro ⟨rfl, rfl⟩ ?_) | (refine And.intro ⟨rfl, True.intro⟩ ?_) | (refine And.intro (by first | assumption | omega | exact .inr (.inl (fm_small _ (by decide) (by decide))) | (simp [put, wipeG]; done) | (simp [put, wipeG]; omega)) ?_) | (intro _))
        exact hK _ ⟨i + 1, _, _, _, _, _, by simp at hi ⊢; omega, .inr rfl, rfl⟩
      · obtain ⟨pre, post, y4, y5, ep, er, rfl⟩ := hI
        cases post with
        | nil => simp at er
        | cons o post =>
          simp only [List.map_cons, List.cons.injEq] at er
          obtain ⟨rfl, rfl⟩ := er
          have ho := ord_ok (idL n) i o (by rw [ep]; simp)
          have ol := ho.len
          have pll : pre.length ≤ 3125 := by have := congrArg List.length ep; simp only [List.length_append] at this; omega
          have fl : ((idL n).filter fun x => decide (x ∉ o)).length ≤ 5 := Nat.le_trans (List.length_filter_le _ _) b5
          have ml : (pre.flatMap fun o => ((idL n).filter fun x => decide (x ∉ o)).map fun x => o ++ [x]).length ≤ 5 * pre.length := by
            clear ep
            induction pre with
            | nil => simp
            | cons o L ih =>
              rw [List.flatMap_cons, List.length_append, List.length_map, List.length_cons]
              have := Nat.le_trans (List.length_filter_le (fun x => decide (x ∉ o)) (idL n)) b5
              have := ih (by simp at pll; omega)
              omega
          have K3 := fun y4 y5 => hK2 [some (.dat (.int (n : Nat))), some _, some (.dat d), some (.lst false al (((pre ++ [o]).flatMap fun o => ((idL n).filter fun x => decide (x ∉ o)).map fun x => o ++ [x]).map lotD)), y4, y5] ⟨pre ++ [o], post, y4, y5, by rw [ep]; simp, rfl, rfl⟩
          rw [List.flatMap_append, List.flatMap_cons, List.flatMap_nil, List.append_nil, List.map_append] at K3
          have mlm : ((pre.flatMap fun o => ((idL n).filter fun x => decide (x ∉ o)).map fun x => o ++ [x]).map lotD).length ≤ 20000 := by rw [List.length_map]; omega
          generalize (pre.flatMap fun o => ((idL n).filter fun x => decide (x ∉ o)).map fun x => o ++ [x]).map lotD = ML at *
          repeat (first | (dsimp only [put, wipeG, List.set]) | (refine And.intro rfl ?_) | (refine And.intro True.intro ?_) | (refine And.intro ⟨rfl, rfl⟩ ?_) | (refine And.intro ⟨rfl, True.intro⟩ ?_) | (refine And.intro (by first | assumption | omega | exact .inr (.inl (fm_small _ (by decide) (by decide))) | (simp [put, wipeG]; done) | (simp [put, wipeG]; omega)) ?_) | (intro _))
          rw [show rngL 0 ((n : Nat) : Int).toNat = (idL n).map D.int from idL_is n]
          refine lc_fm (ordF o) _ _ (by rw [List.length_map]; omega) (by first | rfl | exact True.intro) (fun e he K4 hK4 => ?_) ?_
          · obtain ⟨x, hx, rfl⟩ := List.mem_map.mp he
            have hK' : K4 (if x ∈ o then none else some (.tup (o.map D.int ++ [.int x]))) _ := hK4
            have ii := in_ints o x
            have st : sh (.tup (o.map D.int)) 60 = true := sh_lstR o
            have lo : (o.map D.int).length ≤ 256 := by rw [List.length_map, ol]; simp at hi; omega
            repeat (first | (dsimp only [put, wipeG, List.set]) | (refine And.intro rfl ?_) | (refine And.intro True.intro ?_) | (refine And.intro ⟨rfl, rfl⟩ ?_) | (refine And.intro ⟨rfl, True.intro⟩ ?_) | (refine And.intro (by first | assumption | omega | exact .inr (.inl (fm_small _ (by decide) (by decide))) | (simp [put, wipeG]; done) | (simp [put, wipeG]; omega)) ?_) | (intro _))
            conv => whnf
            rw [ii]
            by_cases hxo : x ∈ o
            · rw [if_pos hxo] at hK'
              rw [decide_eq_true hxo]
              exact hK'
            · rw [if_neg hxo] at hK'
              rw [decide_eq_false hxo]
              repeat (first | (dsimp only [put, wipeG, List.set]) | (refine And.intro rfl ?_) | (refine And.intro True.intro ?_) | (refine And.intro ⟨rfl, rfl⟩ ?_) | (refine And.intro ⟨rfl, True.intro⟩ ?_) | (refine And.intro (by first | assumption | omega | exact .inr (.inl (fm_small _ (by decide) (by decide))) | (simp [put, wipeG]; done) | (simp [put, wipeG]; omega)) ?_) | (intro _))
              first | exact hK' | exact And.intro (by simp only [List.length_map, List.length_cons, List.length_nil] at *; omega) hK'
          · rw [ord_map]
            have eml : ((((idL n).filter fun x => decide (x ∉ o)).map fun x => o ++ [x]).map lotD).length ≤ 5 := by rw [List.length_map, List.length_map]; exact fl
            repeat (first | (dsimp only [put, wipeG, List.set]) | (refine And.intro rfl ?_) | (refine And.intro True.intro ?_) | (refine And.intro ⟨rfl, rfl⟩ ?_) | (refine And.intro ⟨rfl, True.intro⟩ ?_) | (refine And.intro (by first | assumption | omega | exact .inr (.inl (fm_small _ (by decide) (by decide))) | (simp [put, wipeG]; done) | (simp [put, wipeG]; omega)) ?_) | (intro _))
            first | exact K3 _ _ | exact And.intro (by simp only [List.length_map] at *; omega) (K3 _ _))
theorem ok_all_orders (E : Fx K mg) : FnG P w K mg base CX0 1 E.f_all_orders E.d_all_orders ["many"] (spOf K 1 S_all_orders) := fn_data E.F_all_orders sc_all_orders (wb := w_all_orders) (fun c hK cdv A outer s H Ex hr hgd => by
  subst hK
  have hu1 := hu_of hr
  have hu0 := Nat.lt_of_succ_lt hu1
  have hr65 := unit65 hr
  have sc := sc_all_orders
  exact psd_cons (psd_set (i := 1) sc.nd (pd_lst (pda_cons (pd_tup (pda_nil)) (pda_nil)))) (psd_cons (psd_for PassesOwn.never rfl (pid_range1 E.z_range (pda_cons (pd_n 0) (pda_nil))) (pgd_n (i := 2) sc.nd) (psd_cons (psd_set (i := 3) sc.nd (pd_lst (pda_nil))) (psd_cons (psd_for PassesOwn.never rfl (pid_seq (pd_n 1)) (pgd_n (i := 4) sc.nd) (psd_one (psd_expr ((pd_mt (i := 3) ok_extend PySem.F.plainAttrs_list PySem.F.slot_list_extend PySem.F.type_list_extend rfl (by first | exact Or.inl rfl | exact Or.inr (Or.inl rfl) | exact Or.inr (Or.inr rfl)) (pda_cons (pd_lc (own := [("one", 5)]) (tgs := [5]) rfl sc.nd (pid_range1 E.z_range (pda_cons (pd_n 0) (pda_nil))) (by (show blkC ["many", "found", "turn", "longer", "order", "one"] (defScope s_all_orders) _ _ = true); decide +kernel) (by decide) (fun _ _ _ _ _ => pgd_n (i := 5) sc.nd) (fun _ _ _ _ _ => ptsd_one (ptd_cmp (ok_ninT hr65) (pd_n 5) (pd_n 4))) (fun _ _ _ _ _ => pd_bin ok_add (pd_n 4) (pd_tup (pda_cons (pd_n 5) (pda_nil))))) (pda_nil))))))) (psd_one (psd_set (i := 1) sc.nd (pd_n 3)))))) (psd_one (psd_ret (pd_n 1))))) vc_all_orders
def S__law_orders : Dl.Spec := datS fun ds k => ∃ n : Nat, ds = [.int (n : Nat)] ∧ n ≤ 5 ∧ (k (.lst ((ordN n).map lotD)) ∧ k (.dat (.lst ((ordN n).map lotD))))
def w__law_orders : WS := wSeq (wAsg (wLst (waC (wTup (waN)) (waN))) (stN 1)) (wSeq (wFor (wiR1 (waC (wN 0) (waN))) (stN 2) (wSeq (wAsg (wLst (waN)) (stN 3)) (wSeq (wFor (wiSeq (wN 1)) (stN 4) (wDrop (wMut mExtend 3 (waC (wLc [5] (wiR1 (waC (wN 0) (waN))) (stN 5) (wTv (wBin gNinT (wN 5) (wN 4))) (wBin gAdd (wN 4) (wTup (waC (wN 5) (waN))))) (waN))))) (wAsg (wN 3) (stN 1))))) (wRet (wN 1)))
theorem vc__law_orders : ∀ as rs Qd, ArRs as rs → rs.length = 1 → S__law_orders as Qd → w__law_orders (fin rs Qd) (gm0 6 rs) := vc_dat fun ds k hn hp => by
  obtain ⟨n, rfl, n5, q⟩ := hp
  have b5 : (idL n).length ≤ 5 := by rw [idL_len]; exact n5
  have il := idL_len n
  show w__law_orders (finD k) [some (.dat (.int (n : Nat))), none, none, none, none, none]
  repeat (first | (dsimp only [put, wipeG, List.set]) | (refine And.intro rfl ?_) | (refine And.intro True.intro ?_) | (refine And.intro ⟨rfl, rfl⟩ ?_) | (refine And.intro ⟨rfl, True.intro⟩ ?_) | (refine And.intro (by first | assumption | omega | exact .inr (.inl (fm_small _ (by decide) (by decide))) | (simp [put, wipeG]; done) | (simp [put, wipeG]; omega)) ?_) | (intro _))
  rename_i a0
  refine loop_rule (fun r Γ => ∃ (i : Nat) (f : R) (y2 y3 y4 y5 : Option R), i + r.length = n ∧ (f = .lst false a0 ((ordL (idL n) i).map lotD) ∨ f = .dat (.lst ((ordL (idL n) i).map lotD))) ∧ Γ = [some (.dat (.int (n : Nat))), some f, y2, y3, y4, y5]) (fun _ _ _ => True.intro) ?_ ?_ _ _ ⟨0, _, none, none, none, none, by simp [rngL], .inl rfl, rfl⟩
  · rintro Γ ⟨i, f, y2, y3, y4, y5, hi, hf, rfl⟩
    have hi : i = n := by simpa using hi
    subst hi
    rcases hf with rfl | rfl
    · exact ⟨rfl, q.1⟩
    · exact q.2
  · rintro d r Γ K ⟨i, f, y2, y3, y4, y5, hi, hf, rfl⟩ hK
    have h256 : (ordL (idL n) i).length ≤ 5 ^ 5 := Nat.le_trans (ord_big (idL n) b5 i) (Nat.pow_le_pow_right (by decide) (by simp at hi; omega))
    rcases hf with rfl | rfl <;> (
      repeat (first | (dsimp only [put, wipeG, List.set]) | (refine And.intro rfl ?_) | (refine And.intro True.intro ?_) | (refine And.intro ⟨rfl, rfl⟩ ?_) | (refine And.intro ⟨rfl, True.intro⟩ ?_) | (refine And.intro (by first | assumption | omega | exact .inr (.inl (fm_small _ (by decide) (by decide))) | (simp [put, wipeG]; done) | (simp [put, wipeG]; omega)) ?_) | (intro _))
      rename_i al
      refine loop_rule (fun rr Γ => ∃ (pre post : List (List Int)) (y4 y5 : Option R), ordL (idL n) i = pre ++ post ∧ rr = post.map lotD ∧ Γ = [some (.dat (.int (n : Nat))), some _, some (.dat d), some (.lst false al ((pre.flatMap fun o => ((idL n).filter fun x => decide (x ∉ o)).map fun x => o ++ [x]).map lotD)), y4, y5]) (fun rr Γ hI => ?_) (fun Γ hI => ?_) (fun dl rr Γ K2 hI hK2 => ?_) _ _ ⟨[], ordL (idL n) i, y4, y5, rfl, rfl, rfl⟩
      · obtain ⟨pre, post, y4, y5, _, _, rfl⟩ := hI
        first | rfl | exact True.intro
      · obtain ⟨pre, post, y4, y5, ep, er, rfl⟩ := hI
        have e0 : post = [] := by
          cases post with
          | nil => rfl
          | cons a b => simp at er
        subst e0
        rw [List.append_nil] at ep
        subst ep
        repeat (first | (dsimp only [put, wipeG, List.set]) | (refine And.intro rfl ?_) | (refine And.intro True.intro ?_) | (refine And.intro ⟨rfl, rfl⟩ ?_) | (refine And.intro ⟨rfl, True.intro⟩ ?_) | (refine And.intro (by first | assumption | omega | exact .inr (.inl (fm_small _ (by decide) (by decide))) | (simp [put, wipeG]; done) | (simp [put, wipeG]; omega)) ?_) | (intro _))
        exact hK _ ⟨i + 1, _, _, _, _, _, by simp at hi ⊢; omega, .inr rfl, rfl⟩
      · obtain ⟨pre, post, y4, y5, ep, er, rfl⟩ := hI
        cases post with
        | nil => simp at er
        | cons o post =>
          simp only [List.map_cons, List.cons.injEq] at er
          obtain ⟨rfl, rfl⟩ := er
          have ho := ord_ok (idL n) i o (by rw [ep]; simp)
          have ol := ho.len
          have pll : pre.length ≤ 3125 := by have := congrArg List.length ep; simp only [List.length_append] at this; omega
          have fl : ((idL n).filter fun x => decide (x ∉ o)).length ≤ 5 := Nat.le_trans (List.length_filter_le _ _) b5
          have ml : (pre.flatMap fun o => ((idL n).filter fun x => decide (x ∉ o)).map fun x => o ++ [x]).length ≤ 5 * pre.length := by
            clear ep
            induction pre with
            | nil => simp
            | cons o L ih =>
              rw [List.flatMap_cons, List.length_append, List.length_map, List.length_cons]
              have := Nat.le_trans (List.length_filter_le (fun x => decide (x ∉ o)) (idL n)) b5
              have := ih (by simp at pll; omega)
              omega
          have K3 := fun y4 y5 => hK2 [some (.dat (.int (n : Nat))), some _, some (.dat d), some (.lst false al (((pre ++ [o]).flatMap fun o => ((idL n).filter fun x => decide (x ∉ o)).map fun x => o ++ [x]).map lotD)), y4, y5] ⟨pre ++ [o], post, y4, y5, by rw [ep]; simp, rfl, rfl⟩
          rw [List.flatMap_append, List.flatMap_cons, List.flatMap_nil, List.append_nil, List.map_append] at K3
          have mlm : ((pre.flatMap fun o => ((idL n).filter fun x => decide (x ∉ o)).map fun x => o ++ [x]).map lotD).length ≤ 20000 := by rw [List.length_map]; omega
          generalize (pre.flatMap fun o => ((idL n).filter fun x => decide (x ∉ o)).map fun x => o ++ [x]).map lotD = ML at *
          repeat (first | (dsimp only [put, wipeG, List.set]) | (refine And.intro rfl ?_) | (refine And.intro True.intro ?_) | (refine And.intro ⟨rfl, rfl⟩ ?_) | (refine And.intro ⟨rfl, True.intro⟩ ?_) | (refine And.intro (by first | assumption | omega | exact .inr (.inl (fm_small _ (by decide) (by decide))) | (simp [put, wipeG]; done) | (simp [put, wipeG]; omega)) ?_) | (intro _))
          rw [show rngL 0 ((n : Nat) : Int).toNat = (idL n).map D.int from idL_is n]
          refine lc_fm (ordF o) _ _ (by rw [List.length_map]; omega) (by first | rfl | exact True.intro) (fun e he K4 hK4 => ?_) ?_
          · obtain ⟨x, hx, rfl⟩ := List.mem_map.mp he
            have hK' : K4 (if x ∈ o then none else some (.tup (o.map D.int ++ [.int x]))) _ := hK4
            have ii := in_ints o x
            have st : sh (.tup (o.map D.int)) 60 = true := sh_lstR o
            have lo : (o.map D.int).length ≤ 256 := by rw [List.length_map, ol]; simp at hi; omega
            repeat (first | (dsimp only [put, wipeG, List.set]) | (refine And.intro rfl ?_) | (refine And.intro True.intro ?_) | (refine And.intro ⟨rfl, rfl⟩ ?_) | (refine And.intro ⟨rfl, True.intro⟩ ?_) | (refine And.intro (by first | assumption | omega | exact .inr (.inl (fm_small _ (by decide) (by decide))) | (simp [put, wipeG]; done) | (simp [put, wipeG]; omega)) ?_) | (intro _))
            conv => whnf
            rw [ii]
            by_cases hxo : x ∈ o
            · rw [if_pos hxo] at hK'
              rw [decide_eq_true hxo]
              exact hK'
            · rw [if_neg hxo] at hK'
              rw [decide_eq_false hxo]
              repeat (first | (dsimp only [put, wipeG, List.set]) | (refine And.intro rfl ?_) | (refine And.intro True.intro ?_) | (refine And.intro ⟨rfl, rfl⟩ ?_) | (refine And.intro ⟨rfl, True.intro⟩ ?_) | (refine And.intro (by first | assumption | omega | exact .inr (.inl (fm_small _ (by decide) (by decide))) | (simp [put, wipeG]; done) | (simp [put, wipeG]; omega)) ?_) | (intro _))
              first | exact hK' | exact And.intro (by simp only [List.length_map, List.length_cons, List.length_nil] at *; omega) hK'
          · rw [ord_map]
            have eml : ((((idL n).filter fun x => decide (x ∉ o)).map fun x => o ++ [x]).map lotD).length ≤ 5 := by rw [List.length_map, List.length_map]; exact fl
            repeat (first | (dsimp only [put, wipeG, List.set]) | (refine And.intro rfl ?_) | (refine And.intro True.intro ?_) | (refine And.intro ⟨rfl, rfl⟩ ?_) | (refine And.intro ⟨rfl, True.intro⟩ ?_) | (refine And.intro (by first | assumption | omega | exact .inr (.inl (fm_small _ (by decide) (by decide))) | (simp [put, wipeG]; done) | (simp [put, wipeG]; omega)) ?_) | (intro _))
            first | exact K3 _ _ | exact And.intro (by simp only [List.length_map] at *; omega) (K3 _ _))
theorem ok__law_orders (E : Fx K mg) : FnG P w K mg base CX0 1 E.f__law_orders E.d__law_orders ["many"] (spOf K 1 S__law_orders) := fn_data E.F__law_orders sc__law_orders (wb := w__law_orders) (fun c hK cdv A outer s H Ex hr hgd => by
  subst hK
  have hu1 := hu_of hr
  have hu0 := Nat.lt_of_succ_lt hu1
  have hr65 := unit65 hr
  have sc := sc__law_orders
  exact psd_cons (psd_set (i := 1) sc.nd (pd_lst (pda_cons (pd_tup (pda_nil)) (pda_nil)))) (psd_cons (psd_for PassesOwn.never rfl (pid_range1 E.z_range (pda_cons (pd_n 0) (pda_nil))) (pgd_n (i := 2) sc.nd) (psd_cons (psd_set (i := 3) sc.nd (pd_lst (pda_nil))) (psd_cons (psd_for PassesOwn.never rfl (pid_seq (pd_n 1)) (pgd_n (i := 4) sc.nd) (psd_one (psd_expr ((pd_mt (i := 3) ok_extend PySem.F.plainAttrs_list PySem.F.slot_list_extend PySem.F.type_list_extend rfl (by first | exact Or.inl rfl | exact Or.inr (Or.inl rfl) | exact Or.inr (Or.inr rfl)) (pda_cons (pd_lc (own := [("at", 5)]) (tgs := [5]) rfl sc.nd (pid_range1 E.z_range (pda_cons (pd_n 0) (pda_nil))) (by (show blkC ["many", "found", "lap_here", "longer", "row", "at"] (defScope s__law_orders) _ _ = true); decide +kernel) (by decide) (fun _ _ _ _ _ => pgd_n (i := 5) sc.nd) (fun _ _ _ _ _ => ptsd_one (ptd_cmp (ok_ninT hr65) (pd_n 5) (pd_n 4))) (fun _ _ _ _ _ => pd_bin ok_add (pd_n 4) (pd_tup (pda_cons (pd_n 5) (pda_nil))))) (pda_nil))))))) (psd_one (psd_set (i := 1) sc.nd (pd_n 3)))))) (psd_one (psd_ret (pd_n 1))))) vc__law_orders
end
end Kd
end Dl
namespace Dl
namespace Kd
open PySem PySem.Spec PyProof.Rows
open L2
section
variable {P : Program} {w : World} {K : PySem.W.Frag} {mg : Str → Option Value} {base : Heap}
/-! ### the worth of a pairing, and that one without a crossing exists -/
def offSum (c : List (Int × Int)) (a b : Int × Int) (p : List (Int × Int)) : Nat := (p.map fun w => offI a b (atC c w.1) (atC c w.2)).sum
def linesC (c : List (Int × Int)) : List ((Int × Int) × (Int × Int)) := c.flatMap fun a => c.map fun b => (a, b)
def worthC (c p : List (Int × Int)) : Nat := ((linesC c).map fun l => offSum c l.1 l.2 p).sum
theorem sum_le {α : Type} (f g : α → Nat) : ∀ l : List α, (∀ x ∈ l, f x ≤ g x) → (l.map f).sum ≤ (l.map g).sum
  | [], _ => Nat.le_refl _
  | x :: l, h => by
    have a := h x (by simp)
    have b := sum_le f g l fun y hy => h y (List.mem_cons_of_mem _ hy)
    simp only [List.map_cons, List.sum_cons]
    omega
theorem sum_lt {α : Type} (f g : α → Nat) : ∀ l : List α, (∀ x ∈ l, f x ≤ g x) → (∃ x ∈ l, f x < g x) → (l.map f).sum < (l.map g).sum
  | [], _, ⟨x, hx, _⟩ => by cases hx
  | x :: l, h, ⟨y, hy, hlt⟩ => by
    have a := h x (by simp)
    simp only [List.map_cons, List.sum_cons]
    rcases List.mem_cons.mp hy with rfl | hy
    · have b := sum_le f g l fun z hz => h z (List.mem_cons_of_mem _ hz)
      omega
    · have b := sum_lt f g l (fun z hz => h z (List.mem_cons_of_mem _ hz)) ⟨y, hy, hlt⟩
      omega
theorem split_two {p : List (Int × Int)} {i j : Int} (h0 : 0 ≤ i) (h1 : i < j) (h2 : j < p.length) : ∃ A C E, p = A ++ atC p i :: (C ++ atC p j :: E) := by
  have hi : i.toNat < p.length := by omega
  have hj : j.toNat < p.length := by omega
  have e1 : atC p i = p[i.toNat] := by unfold atC; rw [List.getElem?_eq_getElem hi]; rfl
  have e2 : atC p j = p[j.toNat] := by unfold atC; rw [List.getElem?_eq_getElem hj]; rfl
  have hk : j.toNat - i.toNat - 1 < (p.drop (i.toNat + 1)).length := by rw [List.length_drop]; omega
  refine ⟨p.take i.toNat, (p.drop (i.toNat + 1)).take (j.toNat - i.toNat - 1), (p.drop (i.toNat + 1)).drop (j.toNat - i.toNat - 1 + 1), ?_⟩
  have e3 : (p.drop (i.toNat + 1))[j.toNat - i.toNat - 1] = p[j.toNat] := by
    rw [List.getElem_drop]
    congr 1
    omega
  rw [e1, e2, ← e3, ← List.drop_eq_getElem_cons hk, List.take_append_drop, ← List.drop_eq_getElem_cons hi, List.take_append_drop]
def swapE (A C E : List (Int × Int)) (x y : Int × Int) : List (Int × Int) := A ++ (x.1, y.2) :: (C ++ (y.1, x.2) :: E)
theorem swap_red (A C E : List (Int × Int)) (x y : Int × Int) : (swapE A C E x y).map (·.1) = (A ++ x :: (C ++ y :: E)).map (·.1) := by
  unfold swapE
  simp only [List.map_append, List.map_cons]
theorem swap_blue (A C E : List (Int × Int)) (x y : Int × Int) : ((swapE A C E x y).map (·.2)).Perm ((A ++ x :: (C ++ y :: E)).map (·.2)) := by
  unfold swapE
  simp only [List.map_append, List.map_cons]
  refine List.Perm.append_left _ ?_
  exact ((List.Perm.cons _ List.perm_middle).trans (List.Perm.swap _ _ _)).trans (List.Perm.cons _ List.perm_middle.symm)
theorem swap_off (c : List (Int × Int)) (a b : Int × Int) (A C E : List (Int × Int)) (x y : Int × Int) : offSum c a b (swapE A C E x y) + (offI a b (atC c x.1) (atC c x.2) + offI a b (atC c y.1) (atC c y.2)) = offSum c a b (A ++ x :: (C ++ y :: E)) + (offI a b (atC c x.1) (atC c y.2) + offI a b (atC c y.1) (atC c x.2)) := by
  unfold offSum swapE
  simp only [List.map_append, List.map_cons, List.sum_append, List.sum_cons]
  omega
theorem swap_worth {c A C E : List (Int × Int)} {x y : Int × Int} (h : crB (atC c x.1) (atC c x.2) (atC c y.1) (atC c y.2) = true) (h1 : atC c x.1 ∈ c) (h2 : atC c y.2 ∈ c) : worthC c (swapE A C E x y) < worthC c (A ++ x :: (C ++ y :: E)) := by
  refine sum_lt _ _ _ (fun l _ => ?_) ⟨(atC c x.1, atC c y.2), List.mem_flatMap.mpr ⟨_, h1, List.mem_map.mpr ⟨_, h2, rfl⟩⟩, ?_⟩
  · have e := swap_off c l.1 l.2 A C E x y
    have := off_le h l.1 l.2
    omega
  · have e := swap_off c (atC c x.1) (atC c y.2) A C E x y
    have := off_lt h
    show offSum c (atC c x.1) (atC c y.2) _ < offSum c (atC c x.1) (atC c y.2) _
    omega
theorem apart_gen {c : List (Int × Int)} {F S : List Int} (hF : ∀ x ∈ F, 0 ≤ x ∧ x < c.length) (hS : ∀ x ∈ S, 0 ≤ x ∧ x < c.length) : ∀ (N : Nat) (p : List (Int × Int)), p.map (·.1) = F → (p.map (·.2)).Perm S → worthC c p < N →
    ∃ q : List (Int × Int), q.map (·.1) = F ∧ (q.map (·.2)).Perm S ∧ ∀ A C E x y, q = A ++ x :: (C ++ y :: E) → crB (atC c x.1) (atC c x.2) (atC c y.1) (atC c y.2) = false := by
  intro N
  induction N with
  | zero => intro p _ _ h; omega
  | succ N ih =>
    intro p h1 h2 hw
    by_cases hx : ∃ A C E x y, p = A ++ x :: (C ++ y :: E) ∧ crB (atC c x.1) (atC c x.2) (atC c y.1) (atC c y.2) = true
    · obtain ⟨A, C, E, x, y, e, h⟩ := hx
      have mx : x ∈ p := by rw [e]; simp
      have my : y ∈ p := by rw [e]; simp
      have i1 := hF x.1 (by rw [← h1]; exact List.mem_map.mpr ⟨x, mx, rfl⟩)
      have i2 := hS y.2 (h2.mem_iff.mp (List.mem_map.mpr ⟨y, my, rfl⟩))
      have := swap_worth (A := A) (C := C) (E := E) h (at_ix (c := c) i1.1 i1.2).2 (at_ix (c := c) i2.1 i2.2).2
      rw [← e] at this
      refine ih (swapE A C E x y) ?_ ?_ (by omega)
      · rw [swap_red, ← e]
        exact h1
      · have z := swap_blue A C E x y
        rw [← e] at z
        exact z.trans h2
    · refine ⟨p, h1, h2, fun A C E x y e => ?_⟩
      cases hb : crB (atC c x.1) (atC c x.2) (atC c y.1) (atC c y.2) with
      | false => rfl
      | true => exact absurd ⟨A, C, E, x, y, e, hb⟩ hx
/-! ### two crowds, paired -/
structure TwoOk (r b : List (Int × Int)) (n : Nat) : Prop where
  lr : r.length = n
  lb : b.length = n
  n3 : 3 ≤ n
  n5 : n ≤ 5
  free : FreeOk (r ++ b)
theorem at_left {r : List (Int × Int)} (b : List (Int × Int)) {i : Int} (h0 : 0 ≤ i) (h : i < r.length) : atC (r ++ b) i = atC r i := by
  unfold atC
  rw [List.getElem?_append_left (by omega)]
theorem at_right (r : List (Int × Int)) {b : List (Int × Int)} {i : Int} (h0 : 0 ≤ i) : atC (r ++ b) ((r.length : Int) + i) = atC b i := by
  unfold atC
  rw [List.getElem?_append_right (by omega)]
  congr 2
  omega
theorem cr_comm (a b k l : Int × Int) : crB a b k l = crB k l a b := Bool.and_comm _ _
def crO (r b : List (Int × Int)) (o : List Int) (i j : Int) : Bool := crB (atC r i) (atC b (atI o i)) (atC r j) (atC b (atI o j))
def nevB (r b : List (Int × Int)) (o : List Int) : Bool := (idL o.length).all fun i => (idL i.toNat).all fun j => !crO r b o i j
theorem nev_iff {r b : List (Int × Int)} {o : List Int} : nevB r b o = true ↔ ∀ i j : Int, 0 ≤ j → j < i → i < o.length → crO r b o i j = false := by
  unfold nevB
  rw [List.all_eq_true]
  constructor
  · intro h i j h0 h1 h2
    have hi : i ∈ idL o.length := List.mem_map.mpr ⟨i.toNat, List.mem_range.mpr (by omega), by omega⟩
    have hj : j ∈ idL i.toNat := List.mem_map.mpr ⟨j.toNat, List.mem_range.mpr (by omega), by omega⟩
    have := List.all_eq_true.mp (h i hi) j hj
    simpa using this
  · intro h i hi
    obtain ⟨i0, i1⟩ := idL_in hi
    refine List.all_eq_true.mpr fun j hj => ?_
    obtain ⟨j0, j1⟩ := idL_in hj
    rw [h i j j0 (by omega) i1]
    rfl
def goodL (r b : List (Int × Int)) (n : Nat) : List (List Int) := (ordN n).filter (nevB r b)
theorem ord_in {n : Nat} {o : List Int} (h : o.Perm (idL n)) : o ∈ ordN n := ord_all n o ⟨h.nodup_iff.mpr (idL_nd n), fun x hx => h.mem_iff.mp hx, by rw [h.length_eq, idL_len]⟩
theorem ord_perm {n : Nat} {o : List Int} (h : o ∈ ordN n) : o.Perm (idL n) := by
  have k := ord_ok _ _ o h
  exact nd_perm k.nd k.sub (by rw [k.len, idL_len])
theorem at_map (q : List (Int × Int)) {i : Int} (h0 : 0 ≤ i) (h : i < q.length) (f : Int × Int → Int) : atI (q.map f) i = f (atC q i) := by
  have hlt : i.toNat < q.length := by omega
  unfold atI atC
  rw [List.getElem?_map, List.getElem?_eq_getElem hlt]
  rfl
theorem good_some {r b : List (Int × Int)} {n : Nat} (h : TwoOk r b n) : goodL r b n ≠ [] := fun z => by
  have lr := h.lr
  have lb := h.lb
  have lc : (r ++ b).length = n + n := by rw [List.length_append]; omega
  obtain ⟨q, q1, q2, q3⟩ := apart_gen (c := r ++ b) (F := idL n) (S := (idL n).map fun x => (n : Int) + x) (fun x hx => by
    have := idL_in hx
    omega) (fun x hx => by
    obtain ⟨y, hy, rfl⟩ := List.mem_map.mp hx
    have := idL_in hy
    omega) _ ((idL n).map fun x => (x, (n : Int) + x)) (by rw [List.map_map]; exact List.map_id _) (by rw [List.map_map]; exact List.Perm.refl _) (Nat.lt_succ_self _)
  have lq : q.length = n := by
    have := congrArg List.length q1
    rw [List.length_map, idL_len] at this
    exact this
  have hp : (q.map fun w => w.2 - (n : Int)).Perm (idL n) := by
    have := q2.map fun x => x - (n : Int)
    rw [List.map_map, List.map_map] at this
    have e : ((fun x => x - (n : Int)) ∘ fun x => (n : Int) + x) = id := by
      funext x
      show (n : Int) + x - n = x
      omega
    rw [e, List.map_id] at this
    exact this
  have fst : ∀ i : Int, 0 ≤ i → i < n → (atC q i).1 = i := fun i h0 h1 => by
    have e := at_map q h0 (by omega) (·.1)
    rw [q1] at e
    rw [← e]
    have hlt : i.toNat < n := by omega
    unfold atI idL
    rw [List.getElem?_map, List.getElem?_range hlt]
    show ((i.toNat : Nat) : Int) = i
    omega
  have hin : (q.map fun w => w.2 - (n : Int)) ∈ goodL r b n := by
    refine List.mem_filter.mpr ⟨ord_in hp, nev_iff.mpr fun i j h0 h1 h2 => ?_⟩
    rw [List.length_map] at h2
    have h2' : i < (n : Int) := by omega
    obtain ⟨A, C, E, e⟩ := split_two (p := q) h0 h1 h2
    have k := q3 A C E _ _ e
    have m : ∀ i : Int, 0 ≤ i → i < n → atC (r ++ b) (atC q i).1 = atC r i ∧ atC (r ++ b) (atC q i).2 = atC b (atI (q.map fun w => w.2 - (n : Int)) i) := fun i h0 h1 => by
      refine ⟨by rw [fst i h0 h1]; exact at_left b h0 (by omega), ?_⟩
      rw [at_map q h0 (by omega)]
      have hm := hp.mem_iff.mp (show (atC q i).2 - (n : Int) ∈ q.map fun w => w.2 - (n : Int) from List.mem_map.mpr ⟨_, (at_ix (c := q) h0 (by omega)).2, rfl⟩)
      have := idL_in hm
      have e := at_right r (b := b) (i := (atC q i).2 - (n : Int)) this.1
      rw [← e]
      congr 1
      omega
    rw [(m j h0 (by omega)).1, (m j h0 (by omega)).2, (m i (by omega) h2').1, (m i (by omega) h2').2] at k
    unfold crO
    rw [cr_comm]
    exact k
  rw [z] at hin
  cases hin
end
end Kd
end Dl
namespace Dl
namespace Kd
open PySem PySem.Spec PyProof.Rows
open L2
section
variable {P : Program} {w : World} {K : PySem.W.Frag} {mg : Str → Option Value} {base : Heap}
/-! ### turned round: as many -/
theorem sep_ends (a b k l : Int × Int) : sepB b a l k = sepB a b k l := by
  unfold sepB
  rw [turn_back a b l, turn_back a b k, Int.neg_mul_neg, Int.mul_comm]
theorem sep_ends2 (a b k l : Int × Int) : sepB a b l k = sepB a b k l := by
  unfold sepB
  rw [Int.mul_comm]
theorem cr_ends (a b k l : Int × Int) : crB b a l k = crB a b k l := by
  unfold crB
  rw [sep_ends a b k l, sep_ends k l a b]
def invO (n : Nat) (o : List Int) : List Int := (idL n).map fun k => ((o.idxOf k : Nat) : Int)
theorem inv_len (n : Nat) (o : List Int) : (invO n o).length = n := by unfold invO; rw [List.length_map, idL_len]
theorem atI_idL {n : Nat} {i : Int} (h0 : 0 ≤ i) (h : i < n) (f : Int → Int) : atI ((idL n).map f) i = f i := by
  have hlt : i.toNat < n := by omega
  unfold atI idL
  rw [List.map_map, List.getElem?_map, List.getElem?_range hlt]
  show f ((i.toNat : Nat) : Int) = f i
  congr 1
  omega
theorem inv_at {n : Nat} {o : List Int} (h : o.Perm (idL n)) {k : Int} (h0 : 0 ≤ k) (h1 : k < n) : 0 ≤ atI (invO n o) k ∧ atI (invO n o) k < n ∧ atI o (atI (invO n o) k) = k := by
  have hm : k ∈ o := h.mem_iff.mpr (List.mem_map.mpr ⟨k.toNat, List.mem_range.mpr (by omega), by omega⟩)
  have hl := h.length_eq
  rw [idL_len] at hl
  have hi := List.idxOf_lt_length_of_mem hm
  unfold invO
  rw [atI_idL h0 h1]
  refine ⟨by omega, by omega, ?_⟩
  unfold atI
  rw [Int.toNat_natCast, List.getElem?_eq_getElem hi]
  show o[o.idxOf k] = k
  exact List.getElem_idxOf hi
theorem at_inj {n : Nat} {o : List Int} (h : o.Perm (idL n)) {i j : Int} (h0 : 0 ≤ i) (h1 : i < n) (g0 : 0 ≤ j) (g1 : j < n) (e : atI o i = atI o j) : i = j := by
  have hl := h.length_eq
  rw [idL_len] at hl
  have nd : o.Nodup := h.nodup_iff.mpr (idL_nd n)
  have i2 : i.toNat < o.length := by omega
  have j2 : j.toNat < o.length := by omega
  unfold atI at e
  rw [List.getElem?_eq_getElem i2, List.getElem?_eq_getElem j2] at e
  have := (List.getElem_inj nd).mp (by simpa using e)
  omega
theorem at_in {n : Nat} {o : List Int} (h : o.Perm (idL n)) {i : Int} (h0 : 0 ≤ i) (h1 : i < n) : 0 ≤ atI o i ∧ atI o i < n := by
  have hl := h.length_eq
  rw [idL_len] at hl
  exact idL_in (h.mem_iff.mp (atI_ix (M := o) h0 (by omega)).2)
theorem eq_at {n : Nat} {o m : List Int} (h1 : o.length = n) (h2 : m.length = n) (h : ∀ i : Int, 0 ≤ i → i < n → atI o i = atI m i) : o = m := by
  apply List.ext_getElem (by omega)
  intro i a b
  have := h i (by omega) (by omega)
  unfold atI at this
  rw [Int.toNat_natCast, List.getElem?_eq_getElem a, List.getElem?_eq_getElem b] at this
  exact this
theorem inv_perm {n : Nat} {o : List Int} (h : o.Perm (idL n)) : (invO n o).Perm (idL n) := by
  refine nd_perm ?_ (fun x hx => ?_) (by rw [inv_len, idL_len])
  · rw [List.Nodup, List.pairwise_iff_getElem]
    intro i j hi hj hij e
    rw [inv_len] at hi hj
    have a := inv_at h (k := (i : Int)) (by omega) (by omega)
    have b := inv_at h (k := (j : Int)) (by omega) (by omega)
    have e2 : atI (invO n o) (i : Int) = atI (invO n o) (j : Int) := by
      unfold atI
      rw [Int.toNat_natCast, Int.toNat_natCast, List.getElem?_eq_getElem (by rw [inv_len]; exact hi), List.getElem?_eq_getElem (by rw [inv_len]; exact hj)]
      simpa using e
    rw [e2] at a
    omega
  · obtain ⟨k, hk, rfl⟩ := List.mem_map.mp hx
    have kk := idL_in hk
    have a := inv_at h kk.1 kk.2
    unfold invO at a
    rw [atI_idL kk.1 kk.2] at a
    exact List.mem_map.mpr ⟨(o.idxOf k), List.mem_range.mpr (by omega), by simp⟩
theorem inv_inv {n : Nat} {o : List Int} (h : o.Perm (idL n)) : invO n (invO n o) = o := by
  have hl := h.length_eq
  rw [idL_len] at hl
  refine eq_at (inv_len _ _) hl fun i h0 h1 => ?_
  have a := inv_at (inv_perm h) h0 h1
  have b := inv_at h a.1 a.2.1
  rw [a.2.2] at b
  exact b.2.2.symm
theorem nev_inv {r b : List (Int × Int)} {n : Nat} {o : List Int} (h : o.Perm (idL n)) (hb : nevB r b o = true) : nevB b r (invO n o) = true := by
  have hl := h.length_eq
  rw [idL_len] at hl
  rw [nev_iff] at hb ⊢
  intro i j h0 h1 h2
  rw [inv_len] at h2
  have a := inv_at h (k := i) (by omega) (by omega)
  have d := inv_at h (k := j) h0 (by omega)
  have e : crO b r (invO n o) i j = crO r b o (atI (invO n o) i) (atI (invO n o) j) := by
    unfold crO
    rw [a.2.2, d.2.2, ← cr_ends]
  rw [e]
  rcases Int.lt_or_gt_of_ne (show atI (invO n o) i ≠ atI (invO n o) j from fun z => by rw [z] at a; omega) with lt | gt
  · unfold crO
    rw [cr_comm]
    exact hb _ _ a.1 lt (by omega)
  · exact hb _ _ d.1 gt (by omega)
theorem ord_nd (n : Nat) : (ordN n).Nodup := by
  have asc : (idL n).Pairwise (· < ·) := by
    unfold idL
    rw [List.pairwise_map]
    exact List.pairwise_lt_range.imp fun h => by omega
  exact (ord_asc asc n).imp fun h e => by
    rw [e] at h
    exact List.lt_irrefl _ h
theorem good_le (r b : List (Int × Int)) (n : Nat) : (goodL r b n).length ≤ (goodL b r n).length := by
  have := sub_len ((goodL r b n).map (invO n)) (goodL b r n) (by
    rw [List.Nodup, List.pairwise_map]
    refine List.Pairwise.imp_of_mem (fun {o m} ho hm hne e => hne ?_) ((ord_nd n).filter _)
    have po := ord_perm (List.mem_filter.mp ho).1
    have pm := ord_perm (List.mem_filter.mp hm).1
    rw [← inv_inv po, ← inv_inv pm, e]) (fun x hx => by
    obtain ⟨o, ho, rfl⟩ := List.mem_map.mp hx
    obtain ⟨h1, h2⟩ := List.mem_filter.mp ho
    exact List.mem_filter.mpr ⟨ord_in (inv_perm (ord_perm h1)), nev_inv (ord_perm h1) h2⟩)
  rwa [List.length_map] at this
theorem good_same (r b : List (Int × Int)) (n : Nat) : (goodL b r n).length = (goodL r b n).length := Nat.le_antisymm (good_le b r n) (good_le r b n)
end
end Kd
end Dl
namespace Dl
namespace Kd
open PySem PySem.Spec PyProof.Rows
open L2
section
variable {P : Program} {w : World} {K : PySem.W.Frag} {mg : Str → Option Value} {base : Heap}
/-! ### joined crowds are free -/
theorem enum_dots {c : List (Int × Int)} {d : D} (h : d ∈ enumD (c.map dotD)) : ∃ i : Nat, i < c.length ∧ d = .tup [.int i, dotD (atC c i)] := by
  obtain ⟨i, hi⟩ := List.mem_iff_getElem?.mp h
  obtain ⟨x, hx, rfl⟩ := enumD_get hi
  rw [List.getElem?_map] at hx
  cases e : c[i]? with
  | none => rw [e] at hx; cases hx
  | some p =>
    rw [e] at hx
    cases hx
    refine ⟨i, (List.getElem?_eq_some_iff.mp e).1, ?_⟩
    unfold atC
    rw [Int.toNat_natCast, e]
    rfl
theorem cut_to {α : Type} (l : List α) (m : Nat) : cutD l none (some (m : Int)) = l.take m := by
  unfold cutD
  rw [HT.sIx_none, HT.sIx_nat, List.drop_zero, Nat.sub_zero]
  by_cases h : m ≤ l.length
  · rw [Nat.min_eq_left h]
  · rw [Nat.min_eq_right (by omega), List.take_length, List.take_of_length_le (by omega)]
theorem cut_dots (c : List (Int × Int)) (i : Nat) : cutD (c.map dotD) none (some (i : Int)) = (c.take i).map dotD := (cut_to (c.map dotD) i).trans (by rw [List.map_take])
theorem at_take {c : List (Int × Int)} {i j : Nat} (h : j < i) : atC (c.take i) (j : Int) = atC c j := by
  unfold atC
  rw [Int.toNat_natCast, List.getElem?_take_of_lt h]
def S_is_joined_free : Dl.Spec := datS fun ds k => ∃ c, ds = [crowdD c] ∧ FreeOk c ∧ k (.dat (.bl true))
def w_is_joined_free : WS := wSeq (wIfS (wTv (wBin gLt (wCB gLen (waC (wDc KinT [5] (wiSeq (wN 0)) (stN 5) (wYes) (wN 5) (wD (.bl true))) (waN))) (wCB gLen (waC (wN 0) (waN))))) (wRet (wD (.bl false))) (wNil)) (wSeq (wFor (wiEnum (waC (wN 0) (waN))) (stTup 2 (stCons (stN 1) (stCons (stN 2) (stNil)))) (wFor (wiEnum (waC (wSl (wN 0) (woN) (woS (wN 1))) (waN))) (stTup 2 (stCons (stN 3) (stCons (stN 4) (stNil)))) (wIfS (wTv (wCB gAny (waC (wLc [6] (wiSeq (wSl (wN 0) (woN) (woS (wN 3)))) (stN 6) (wYes) (wBin gEqA (wCall 3 S_raw_turn (waC (wN 2) (waC (wN 4) (waC (wN 6) (waN))))) (wD (.int 0)))) (waN)))) (wRet (wD (.bl false))) (wNil)))) (wRet (wD (.bl true))))
def t_is_joined_free_1 : WS := wSeq (wFor (wiEnum (waC (wN 0) (waN))) (stTup 2 (stCons (stN 1) (stCons (stN 2) (stNil)))) (wFor (wiEnum (waC (wSl (wN 0) (woN) (woS (wN 1))) (waN))) (stTup 2 (stCons (stN 3) (stCons (stN 4) (stNil)))) (wIfS (wTv (wCB gAny (waC (wLc [6] (wiSeq (wSl (wN 0) (woN) (woS (wN 3)))) (stN 6) (wYes) (wBin gEqA (wCall 3 S_raw_turn (waC (wN 2) (waC (wN 4) (waC (wN 6) (waN))))) (wD (.int 0)))) (waN)))) (wRet (wD (.bl false))) (wNil)))) (wRet (wD (.bl true)))
def t_is_joined_free_2 : WS := wRet (wD (.bl true))
def u_is_joined_free_0 : WS := wIfS (wTv (wBin gLt (wCB gLen (waC (wDc KinT [5] (wiSeq (wN 0)) (stN 5) (wYes) (wN 5) (wD (.bl true))) (waN))) (wCB gLen (waC (wN 0) (waN))))) (wRet (wD (.bl false))) (wNil)
def u_is_joined_free_1 : WS := wFor (wiEnum (waC (wN 0) (waN))) (stTup 2 (stCons (stN 1) (stCons (stN 2) (stNil)))) (wFor (wiEnum (waC (wSl (wN 0) (woN) (woS (wN 1))) (waN))) (stTup 2 (stCons (stN 3) (stCons (stN 4) (stNil)))) (wIfS (wTv (wCB gAny (waC (wLc [6] (wiSeq (wSl (wN 0) (woN) (woS (wN 3)))) (stN 6) (wYes) (wBin gEqA (wCall 3 S_raw_turn (waC (wN 2) (waC (wN 4) (waC (wN 6) (waN))))) (wD (.int 0)))) (waN)))) (wRet (wD (.bl false))) (wNil)))
def u_is_joined_free_2 : WS := wRet (wD (.bl true))
theorem vc_is_joined_free : ∀ as rs Qd, ArRs as rs → rs.length = 1 → S_is_joined_free as Qd → w_is_joined_free (fin rs Qd) (gm0 7 rs) := vc_dat fun ds k hn hp => by
  obtain ⟨c, rfl, hf, q⟩ := hp
  have c12 := hf.ok.many
  have s0 : ∀ (E : SE), E.nx [some (.dat (.tup (c.map dotD))), none, none, none, none, none, none] → u_is_joined_free_0 E [some (.dat (.tup (c.map dotD))), none, none, none, none, none, none] := fun E K => by
    repeat (first | (dsimp only [put, wipeG, List.set]) | (refine And.intro rfl ?_) | (refine And.intro True.intro ?_) | (refine And.intro ⟨rfl, rfl⟩ ?_) | (refine And.intro ⟨rfl, True.intro⟩ ?_) | (refine And.intro (by first | assumption | omega | exact .inr (.inl (fm_small _ (by decide) (by decide))) | (simp [put, wipeG]; done) | (simp [put, wipeG]; omega)) ?_) | (intro _))
    refine dots_dict c (by omega) True.intro (fun p hp K acc hacc hK => ?_) fun acc hacc => ?_
    · repeat (first | (dsimp only [put, wipeG, List.set]) | (refine And.intro rfl ?_) | (refine And.intro True.intro ?_) | (refine And.intro ⟨rfl, rfl⟩ ?_) | (refine And.intro ⟨rfl, True.intro⟩ ?_) | (refine And.intro (by first | assumption | omega | exact .inr (.inl (fm_small _ (by decide) (by decide))) | (simp [put, wipeG]; done) | (simp [put, wipeG]; omega)) ?_) | (intro _))
      exact hK
    · have ml := (many_dots c).mpr hf.ok.nd
      have z : decide ((((acc.map (·.1)).length : Nat) : Int) < (((c.map dotD).length : Nat) : Int)) = false := decide_eq_false (by rw [List.length_map, List.length_map]; omega)
      repeat (first | (dsimp only [put, wipeG, List.set]) | (refine And.intro rfl ?_) | (refine And.intro True.intro ?_) | (refine And.intro ⟨rfl, rfl⟩ ?_) | (refine And.intro ⟨rfl, True.intro⟩ ?_) | (refine And.intro (by first | assumption | omega | exact .inr (.inl (fm_small _ (by decide) (by decide))) | (simp [put, wipeG]; done) | (simp [put, wipeG]; omega)) ?_) | (intro _))
      conv => whnf
      first | rw [z] | (simp only [List.length_map] at z ⊢; rw [z])
      exact K
  have s1 : ∀ (E : SE), (∀ x1 x2 x3 x4, E.nx [some (.dat (.tup (c.map dotD))), x1, x2, x3, x4, none, none]) → u_is_joined_free_1 E [some (.dat (.tup (c.map dotD))), none, none, none, none, none, none] := fun E K => by
    repeat (first | (dsimp only [put, wipeG, List.set]) | (refine And.intro rfl ?_) | (refine And.intro True.intro ?_) | (refine And.intro ⟨rfl, rfl⟩ ?_) | (refine And.intro ⟨rfl, True.intro⟩ ?_) | (refine And.intro (by first | assumption | omega | exact .inr (.inl (fm_small _ (by decide) (by decide))) | (simp [put, wipeG]; done) | (simp [put, wipeG]; omega)) ?_) | (intro _))
    refine loop_rule (fun r Γ => ∃ (x1 x2 x3 x4 : Option R), (∀ d ∈ r, d ∈ enumD (c.map dotD)) ∧ Γ = [some (.dat (.tup (c.map dotD))), x1, x2, x3, x4, none, none]) (fun _ _ _ => True.intro) ?_ ?_ _ _ ⟨none, none, none, none, fun d hd => hd, rfl⟩
    · rintro Γ ⟨x1, x2, x3, x4, _, rfl⟩
      exact K _ _ _ _
    · rintro d r Γ K2 ⟨x1, x2, x3, x4, hr, rfl⟩ hK
      obtain ⟨i, hi, rfl⟩ := enum_dots (hr d (by simp))
      have nx := fun x1 x2 x3 x4 => hK [some (.dat (.tup (c.map dotD))), x1, x2, x3, x4, none, none] ⟨x1, x2, x3, x4, fun e he => hr e (List.mem_cons_of_mem _ he), rfl⟩
      have ci := cut_dots c i
      have fi := dot_isDot (hf.ok.box _ (at_ix (c := c) (i := (i : Int)) (by omega) (by omega)).2)
      repeat (first | (dsimp only [put, wipeG, List.set]) | (refine And.intro rfl ?_) | (refine And.intro True.intro ?_) | (refine And.intro ⟨rfl, rfl⟩ ?_) | (refine And.intro ⟨rfl, True.intro⟩ ?_) | (refine And.intro (by first | assumption | omega | exact .inr (.inl (fm_small _ (by decide) (by decide))) | (simp [put, wipeG]; done) | (simp [put, wipeG]; omega)) ?_) | (intro _))
      show wLoop _ _ _ (enumD (cutD (c.map dotD) none (some (i : Int)))) _ _
      rw [ci]
      refine loop_rule (fun rr Γ => ∃ (x3 x4 : Option R), (∀ d ∈ rr, d ∈ enumD ((c.take i).map dotD)) ∧ Γ = [some (.dat (.tup (c.map dotD))), some (.dat (.int i)), some (.dat (dotD (atC c i))), x3, x4, none, none]) (fun _ _ _ => True.intro) ?_ ?_ _ _ ⟨x3, x4, fun d hd => hd, rfl⟩
      · rintro Γ ⟨x3, x4, _, rfl⟩
        exact nx _ _ _ _
      · rintro d2 rr Γ K3 ⟨x3, x4, hr2, rfl⟩ hK3
        obtain ⟨j, hj, rfl⟩ := enum_dots (hr2 d2 (by simp))
        rw [List.length_take] at hj
        have ej : atC (c.take i) (j : Int) = atC c j := at_take (by omega)
        rw [ej]
        have nx3 := hK3 [some (.dat (.tup (c.map dotD))), some (.dat (.int i)), some (.dat (dotD (atC c i))), some (.dat (.int j)), some (.dat (dotD (atC c j))), none, none] ⟨_, _, fun e he => hr2 e (List.mem_cons_of_mem _ he), rfl⟩
        have cj := cut_dots c j
        have fj := dot_isDot (hf.ok.box _ (at_ix (c := c) (i := (j : Int)) (by omega) (by omega)).2)
        have key : ∀ p ∈ c.take j, turnI (atC c i) (atC c j) p ≠ 0 ∧ isDot (dotD p) = true := fun p hp => by
          obtain ⟨l, hl, e⟩ := List.getElem_of_mem hp
          rw [List.length_take] at hl
          have ep : p = atC c (l : Int) := by
            rw [← e, List.getElem_take]
            unfold atC
            rw [Int.toNat_natCast, List.getElem?_eq_getElem (by omega)]
            rfl
          rw [ep]
          refine ⟨fun z => ?_, dot_isDot (hf.ok.box _ (at_ix (c := c) (i := (l : Int)) (by omega) (by omega)).2)⟩
          have fr := free_any hf (i := (i : Int)) (j := (j : Int)) (k := (l : Int)) (by omega) (by omega) (by omega) (by omega) (by omega) (by omega)
          unfold turnI sgn at z
          split at z <;> split at z <;> omega
        generalize atC c (i : Int) = pi at *
        generalize atC c (j : Int) = pj at *
        obtain ⟨pi0, pi1⟩ := pi
        obtain ⟨pj0, pj1⟩ := pj
        have lt : ((c.take j).map dotD).length ≤ 1000000 := by rw [List.length_map, List.length_take]; omega
        repeat (first | (dsimp only [put, wipeG, List.set]) | (refine And.intro rfl ?_) | (refine And.intro True.intro ?_) | (refine And.intro ⟨rfl, rfl⟩ ?_) | (refine And.intro ⟨rfl, True.intro⟩ ?_) | (refine And.intro (by first | assumption | omega | exact .inr (.inl (fm_small _ (by decide) (by decide))) | (simp [put, wipeG]; done) | (simp [put, wipeG]; omega)) ?_) | (intro _))
        show lcLoop _ _ _ _ _ (cutD (c.map dotD) none (some (j : Int))) [] _ _
        rw [cj]
        refine lc_map (fun _ => .bl false) _ _ lt (by first | rfl | exact True.intro) (fun d hd K4 hK4 => ?_) ?_
        · obtain ⟨p, hp, rfl⟩ := List.mem_map.mp hd
          obtain ⟨k1, k2⟩ := key p hp
          obtain ⟨p0, p1⟩ := p
          repeat (first | (dsimp only [put, wipeG, List.set]) | (refine And.intro rfl ?_) | (refine And.intro True.intro ?_) | (refine And.intro ⟨rfl, rfl⟩ ?_) | (refine And.intro ⟨rfl, True.intro⟩ ?_) | (refine And.intro (by first | assumption | omega | exact .inr (.inl (fm_small _ (by decide) (by decide))) | (simp [put, wipeG]; done) | (simp [put, wipeG]; omega)) ?_) | (intro _))
          refine ⟨[_, _, _], rfl, fi, fj, k2, ?_⟩
          generalize turnI (pi0, pi1) (pj0, pj1) (p0, p1) = T at k1 ⊢
          repeat (first | (dsimp only [put, wipeG, List.set]) | (refine And.intro rfl ?_) | (refine And.intro True.intro ?_) | (refine And.intro ⟨rfl, rfl⟩ ?_) | (refine And.intro ⟨rfl, True.intro⟩ ?_) | (refine And.intro (by first | assumption | omega | exact .inr (.inl (fm_small _ (by decide) (by decide))) | (simp [put, wipeG]; done) | (simp [put, wipeG]; omega)) ?_) | (intro _))
          conv => whnf
          rw [ne_int, decide_eq_false k1]
          exact hK4
        · have e1 := bls_map (fun _ : D => false) ((c.take j).map dotD)
          have e2 : (((c.take j).map dotD).map fun _ => false).any id = false := List.any_eq_false.mpr fun x hx => by
            obtain ⟨_, _, rfl⟩ := List.mem_map.mp hx
            exact Bool.false_ne_true
          repeat (first | (dsimp only [put, wipeG, List.set]) | (refine And.intro rfl ?_) | (refine And.intro True.intro ?_) | (refine And.intro ⟨rfl, rfl⟩ ?_) | (refine And.intro ⟨rfl, True.intro⟩ ?_) | (refine And.intro (by first | assumption | omega | exact .inr (.inl (fm_small _ (by decide) (by decide))) | (simp [put, wipeG]; done) | (simp [put, wipeG]; omega)) ?_) | (intro _))
          conv => whnf
          simp only [e1]
          conv => whnf
          rw [e2]
          exact nx3
  show u_is_joined_free_0 ⟨t_is_joined_free_1 (finD k), (finD k).rt⟩ [some (.dat (.tup (c.map dotD))), none, none, none, none, none, none]
  refine s0 _ ?_
  refine s1 ⟨t_is_joined_free_2 (finD k), (finD k).rt⟩ fun x1 x2 x3 x4 => ?_
  have qq := q
  repeat (first | (dsimp only [put, wipeG, List.set]) | (refine And.intro rfl ?_) | (refine And.intro True.intro ?_) | (refine And.intro ⟨rfl, rfl⟩ ?_) | (refine And.intro ⟨rfl, True.intro⟩ ?_) | (refine And.intro (by first | assumption | omega | exact .inr (.inl (fm_small _ (by decide) (by decide))) | (simp [put, wipeG]; done) | (simp [put, wipeG]; omega)) ?_) | (intro _))
  exact qq
theorem ok_is_joined_free (E : Fx K mg) : FnG P w K mg base CX0 3 E.f_is_joined_free E.d_is_joined_free ["dots"] (spOf K 1 S_is_joined_free) := fn_data E.F_is_joined_free sc_is_joined_free (wb := w_is_joined_free) (fun c hK cdv A outer s H Ex hr hgd => by
  subst hK
  have hu1 := hu_of hr
  have hu0 := Nat.lt_of_succ_lt hu1
  have hr65 := unit65 hr
  have sc := sc_is_joined_free
  exact psd_cons (psd_if (ptd_cmp ok_lt (pd_callB ok_len E.z_len (by decide +kernel) (pda_cons (pd_dc KinT (own := [("dot", 5)]) (tgs := [5]) hu0 rfl sc.nd (pid_seq (pd_n 0)) (by (show blkC ["dots", "i", "one", "j", "other", "dot", "third"] (defScope s_is_joined_free) _ _ = true); decide +kernel) (by decide) (fun _ _ _ _ _ => pgd_n (i := 5) sc.nd) (fun _ _ _ _ _ => ptsd_nil) (fun _ _ _ _ _ => pd_n 5) (fun _ _ _ _ _ => pd_bl)) (pda_nil))) (pd_callB ok_len E.z_len (by decide +kernel) (pda_cons (pd_n 0) (pda_nil)))) (psd_one (psd_ret (pd_bl))) (psd_nil)) (psd_cons (psd_for PassesOwn.never rfl (pid_enum E.z_enumerate (pda_cons (pd_n 0) (pda_nil))) (pgd_tup rfl (pgds_cons (pgd_n (i := 1) sc.nd) (pgds_cons (pgd_n (i := 2) sc.nd) (pgds_nil (tg := []))))) (psd_one (psd_for PassesOwn.never rfl (pid_enum E.z_enumerate (pda_cons (pd_slice (pd_n 0) (pod_none) (pod_some (pd_n 1))) (pda_nil))) (pgd_tup rfl (pgds_cons (pgd_n (i := 3) sc.nd) (pgds_cons (pgd_n (i := 4) sc.nd) (pgds_nil (tg := []))))) (psd_one (psd_if (ptd_val (pd_callB (ok_any rfl) E.z_any (by decide +kernel) (pda_cons (pd_lc (own := [("third", 6)]) (tgs := [6]) rfl sc.nd (pid_seq (pd_slice (pd_n 0) (pod_none) (pod_some (pd_n 3)))) (by (show blkC ["dots", "i", "one", "j", "other", "dot", "third"] (defScope s_is_joined_free) _ _ = true); decide +kernel) (by decide) (fun _ _ _ _ _ => pgd_n (i := 6) sc.nd) (fun _ _ _ _ _ => ptsd_nil) (fun _ _ _ _ _ => pd_cmp (ok_eqA hr.units) (pd_call (ok_raw_turn E) rfl (hr.mono (by decide)) hgd E.g_raw_turn E.F_raw_turn.kp E.b_raw_turn (pda_cons (pd_n 2) (pda_cons (pd_n 4) (pda_cons (pd_n 6) (pda_nil))))) (pd_int))) (pda_nil)))) (psd_one (psd_ret (pd_bl))) (psd_nil)))))) (psd_one (psd_ret (pd_bl))))) vc_is_joined_free
end
end Kd
end Dl
namespace Dl
namespace Kd
open PySem PySem.Spec PyProof.Rows
open L2
section
variable {P : Program} {w : World} {K : PySem.W.Frag} {mg : Str → Option Value} {base : Heap}
def S_check_paired : Dl.Spec := datS fun ds k => ∃ r b n, ds = [crowdD r, crowdD b] ∧ TwoOk r b n ∧ k (.dat .non)
def w_check_paired : WS := wSeq (wDrop (wCall 1 S_check_crowd (waC (wN 0) (waN)))) (wSeq (wDrop (wCall 1 S_check_crowd (waC (wN 1) (waN)))) (wSeq (wIfS (wTv (wBin gNeA (wCB gLen (waC (wN 0) (waN))) (wCB gLen (waC (wN 1) (waN))))) (wNo) (wNil)) (wSeq (wIfS (wNotT (wTv (wCall 1 S_is_joined_free (waC (wBin gAdd (wN 0) (wN 1)) (waN))))) (wNo) (wNil)) (wIfS (wTv (wBin gGt (wCB gLen (waC (wN 0) (waN))) (wD (.int 6)))) (wNo) (wNil)))))
theorem two_left {r b : List (Int × Int)} {n : Nat} (h : TwoOk r b n) : CrowdOk r ∧ CrowdOk b := by
  have l := h.lr
  have m := h.lb
  have n3 := h.n3
  have n5 := h.n5
  have nd := List.nodup_append.mp h.free.ok.nd
  exact ⟨⟨by omega, by omega, fun p hp => h.free.ok.box p (List.mem_append_left _ hp), nd.1⟩, ⟨by omega, by omega, fun p hp => h.free.ok.box p (List.mem_append_right _ hp), nd.2.1⟩⟩
theorem vc_check_paired : ∀ as rs Qd, ArRs as rs → rs.length = 2 → S_check_paired as Qd → w_check_paired (fin rs Qd) (gm0 2 rs) := vc_dat fun ds k hn hp => by
  obtain ⟨r, b, n, rfl, h, q⟩ := hp
  obtain ⟨hr, hb⟩ := two_left h
  have lr := h.lr
  have lb := h.lb
  have n5 := h.n5
  have e1 : decide ((((r.map dotD).length : Nat) : Int) = (((b.map dotD).length : Nat) : Int)) = true := decide_eq_true (by rw [List.length_map, List.length_map]; omega)
  have e2 : decide ((6 : Int) < (((r.map dotD).length : Nat) : Int)) = false := decide_eq_false (by rw [List.length_map]; omega)
  have l1 : (r.map dotD).length + (b.map dotD).length ≤ 1000000 := by rw [List.length_map, List.length_map]; omega
  show w_check_paired (finD k) [some (.dat (.tup (r.map dotD))), some (.dat (.tup (b.map dotD)))]
  repeat (first | (dsimp only [put, wipeG, List.set]) | (refine And.intro rfl ?_) | (refine And.intro True.intro ?_) | (refine And.intro ⟨rfl, rfl⟩ ?_) | (refine And.intro ⟨rfl, True.intro⟩ ?_) | (refine And.intro (by first | assumption | omega | exact .inr (.inl (fm_small _ (by decide) (by decide))) | (simp [put, wipeG]; done) | (simp [put, wipeG]; omega)) ?_) | (intro _))
  refine ⟨[_], rfl, pl_crowd r, crowd_is hr, ?_⟩
  repeat (first | (dsimp only [put, wipeG, List.set]) | (refine And.intro rfl ?_) | (refine And.intro True.intro ?_) | (refine And.intro ⟨rfl, rfl⟩ ?_) | (refine And.intro ⟨rfl, True.intro⟩ ?_) | (refine And.intro (by first | assumption | omega | exact .inr (.inl (fm_small _ (by decide) (by decide))) | (simp [put, wipeG]; done) | (simp [put, wipeG]; omega)) ?_) | (intro _))
  refine ⟨[_], rfl, pl_crowd b, crowd_is hb, ?_⟩
  repeat (first | (dsimp only [put, wipeG, List.set]) | (refine And.intro rfl ?_) | (refine And.intro True.intro ?_) | (refine And.intro ⟨rfl, rfl⟩ ?_) | (refine And.intro ⟨rfl, True.intro⟩ ?_) | (refine And.intro (by first | assumption | omega | exact .inr (.inl (fm_small _ (by decide) (by decide))) | (simp [put, wipeG]; done) | (simp [put, wipeG]; omega)) ?_) | (intro _))
  conv => whnf
  rw [ne_int, e1]
  repeat (first | (dsimp only [put, wipeG, List.set]) | (refine And.intro rfl ?_) | (refine And.intro True.intro ?_) | (refine And.intro ⟨rfl, rfl⟩ ?_) | (refine And.intro ⟨rfl, True.intro⟩ ?_) | (refine And.intro (by first | assumption | omega | exact .inr (.inl (fm_small _ (by decide) (by decide))) | (simp [put, wipeG]; done) | (simp [put, wipeG]; omega)) ?_) | (intro _))
  refine ⟨[_], rfl, r ++ b, by rw [crowdD, List.map_append], h.free, ?_⟩
  repeat (first | (dsimp only [put, wipeG, List.set]) | (refine And.intro rfl ?_) | (refine And.intro True.intro ?_) | (refine And.intro ⟨rfl, rfl⟩ ?_) | (refine And.intro ⟨rfl, True.intro⟩ ?_) | (refine And.intro (by first | assumption | omega | exact .inr (.inl (fm_small _ (by decide) (by decide))) | (simp [put, wipeG]; done) | (simp [put, wipeG]; omega)) ?_) | (intro _))
  conv => whnf
  rw [e2]
  exact q
theorem ok_check_paired (E : Fx K mg) : FnG P w K mg base CX0 6 E.f_check_paired E.d_check_paired ["red", "blue"] (spOf K 2 S_check_paired) := fn_data E.F_check_paired sc_check_paired (wb := w_check_paired) (fun c hK cdv A outer s H Ex hr hgd => by
  subst hK
  have hu1 := hu_of hr
  have hu0 := Nat.lt_of_succ_lt hu1
  have hr65 := unit65 hr
  have sc := sc_check_paired
  exact psd_cons (psd_expr (pd_call (ok_check_crowd E) rfl (hr.mono (by decide)) hgd E.g_check_crowd E.F_check_crowd.kp E.b_check_crowd (pda_cons (pd_n 0) (pda_nil)))) (psd_cons (psd_expr (pd_call (ok_check_crowd E) rfl (hr.mono (by decide)) hgd E.g_check_crowd E.F_check_crowd.kp E.b_check_crowd (pda_cons (pd_n 1) (pda_nil)))) (psd_cons (psd_if (ptd_cmp (ok_neA hr.units) (pd_callB ok_len E.z_len (by decide +kernel) (pda_cons (pd_n 0) (pda_nil))) (pd_callB ok_len E.z_len (by decide +kernel) (pda_cons (pd_n 1) (pda_nil)))) (psd_one (psd_no)) (psd_nil)) (psd_cons (psd_if (ptd_not (ptd_val (pd_call (ok_is_joined_free E) rfl (hr.mono (by decide)) hgd E.g_is_joined_free E.F_is_joined_free.kp E.b_is_joined_free (pda_cons (pd_bin ok_add (pd_n 0) (pd_n 1)) (pda_nil))))) (psd_one (psd_no)) (psd_nil)) (psd_one (psd_if (ptd_cmp ok_gt (pd_callB ok_len E.z_len (by decide +kernel) (pda_cons (pd_n 0) (pda_nil))) (pd_gint E.m_MOST_PAIRED)) (psd_one (psd_no)) (psd_nil))))))) vc_check_paired
end
end Kd
end Dl
namespace Dl
namespace Kd
open PySem PySem.Spec PyProof.Rows
open L2
section
variable {P : Program} {w : World} {K : PySem.W.Frag} {mg : Str → Option Value} {base : Heap}
/-! ### pairs that never cross -/
def itL (o : List Int) (m : Nat) : List D := (List.range m).map fun (j : Nat) => D.tup [.int (j : Int), .int (atI o j)]
theorem it_enum (o : List Int) : enumD (o.map D.int) = itL o o.length := by
  rw [enum_ints]
  unfold idL itL
  rw [List.map_map]
  rfl
theorem it_take (o : List Int) {m : Nat} (h : m ≤ o.length) : enumD ((o.take m).map D.int) = itL o m := by
  rw [it_enum, List.length_take, Nat.min_eq_left h]
  unfold itL
  refine List.map_congr_left fun j hj => ?_
  have hj := List.mem_range.mp hj
  unfold atI
  rw [Int.toNat_natCast, List.getElem?_take_of_lt hj]
theorem cut_ints (o : List Int) (i : Nat) : cutD (o.map D.int) none (some (i : Int)) = (o.take i).map D.int := (cut_to (o.map D.int) i).trans (by rw [List.map_take])
theorem it_drop {o : List Int} {m i : Nat} {d : D} {r : List D} (h : d :: r = (itL o m).drop i) : i < m ∧ d = .tup [.int i, .int (atI o i)] ∧ r = (itL o m).drop (i + 1) := by
  have hlt : i < m := by
    rcases Nat.lt_or_ge i m with h1 | h1
    · exact h1
    · rw [List.drop_eq_nil_of_le (by simp [itL]; exact h1)] at h
      cases h
  rw [List.drop_eq_getElem_cons (by simp [itL]; exact hlt)] at h
  injection h with h1 h2
  exact ⟨hlt, by rw [h1]; simp [itL], h2⟩
theorem cross_four {r b : List (Int × Int)} {n : Nat} (h : TwoOk r b n) {o : List Int} (ho : o.Perm (idL n)) {i j : Int} (h0 : 0 ≤ j) (h1 : j < i) (h2 : i < n) :
    meetI (atC r i) (atC b (atI o i)) (atC r j) (atC b (atI o j)) = crO r b o i j := by
  have lr := h.lr
  have lb := h.lb
  have lc : (r ++ b).length = n + n := by rw [List.length_append]; omega
  have oi := at_in ho (i := i) (by omega) h2
  have oj := at_in ho (i := j) h0 (by omega)
  have ne : atI o i ≠ atI o j := fun e => by
    have := at_inj ho (by omega) h2 h0 (by omega) e
    omega
  have e1 := at_left (r := r) b (i := i) (by omega) (by omega)
  have e2 := at_left (r := r) b (i := j) (by omega) (by omega)
  have e3 := at_right r (b := b) (i := atI o i) oi.1
  have e4 := at_right r (b := b) (i := atI o j) oj.1
  have fa := fun (x y z : Int) (hx : 0 ≤ x ∧ x < n + n) (hy : 0 ≤ y ∧ y < n + n) (hz : 0 ≤ z ∧ z < n + n) a b' c' => free_any h.free (i := x) (j := y) (k := z) (by omega) (by omega) (by omega) a b' c'
  unfold crO
  rw [← e1, ← e2, ← e3, ← e4]
  exact meet_free (fa _ _ _ (by omega) (by omega) (by omega) (by omega) (by omega) (by omega)) (fa _ _ _ (by omega) (by omega) (by omega) (by omega) (by omega) (by omega)) (fa _ _ _ (by omega) (by omega) (by omega) (by omega) (by omega) (by omega)) (fa _ _ _ (by omega) (by omega) (by omega) (by omega) (by omega) (by omega))
theorem nev_no {r b : List (Int × Int)} {o : List Int} {i j : Int} (h0 : 0 ≤ j) (h1 : j < i) (h2 : i < o.length) (h : crO r b o i j = true) : nevB r b o = false := by
  cases hn : nevB r b o with
  | false => rfl
  | true =>
    rw [nev_iff.mp hn i j h0 h1 h2] at h
    cases h
def S_never_cross : Dl.Spec := datS fun ds k => ∃ r b n o, ds = [crowdD r, crowdD b, lotD o] ∧ TwoOk r b n ∧ o.Perm (idL n) ∧ k (.dat (.bl (nevB r b o)))
def w_never_cross : WS := wSeq (wFor (wiEnum (waC (wN 2) (waN))) (stTup 2 (stCons (stN 3) (stCons (stN 4) (stNil)))) (wFor (wiEnum (waC (wSl (wN 2) (woN) (woS (wN 3))) (waN))) (stTup 2 (stCons (stN 5) (stCons (stN 6) (stNil)))) (wIfS (wTv (wCall 4 S_ways_meet (waC (wBin gAt (wN 0) (wN 3)) (waC (wBin gAt (wN 1) (wN 4)) (waC (wBin gAt (wN 0) (wN 5)) (waC (wBin gAt (wN 1) (wN 6)) (waN))))))) (wRet (wD (.bl false))) (wNil)))) (wRet (wD (.bl true)))
theorem vc_never_cross : ∀ as rs Qd, ArRs as rs → rs.length = 3 → S_never_cross as Qd → w_never_cross (fin rs Qd) (gm0 7 rs) := vc_dat fun ds k hn hp => by
  obtain ⟨r, b, n, o, rfl, h, ho, q⟩ := hp
  obtain ⟨hr, hb⟩ := two_left h
  have lr := h.lr
  have lb := h.lb
  have n5 := h.n5
  have lo := ho.length_eq
  rw [idL_len] at lo
  show w_never_cross (finD k) [some (.dat (.tup (r.map dotD))), some (.dat (.tup (b.map dotD))), some (.dat (.tup (o.map D.int))), none, none, none, none]
  show wLoop _ _ _ (enumD (o.map D.int)) _ _
  rw [it_enum, lo]
  refine loop_rule (fun rr Γ => ∃ (i : Nat) (x3 x4 x5 x6 : Option R), rr = (itL o n).drop i ∧ (∀ s t : Int, 0 ≤ t → t < s → s < i → crO r b o s t = false) ∧ Γ = [some (.dat (.tup (r.map dotD))), some (.dat (.tup (b.map dotD))), some (.dat (.tup (o.map D.int))), x3, x4, x5, x6]) (fun _ _ _ => True.intro) ?_ ?_ _ _ ⟨0, none, none, none, none, rfl, fun s t h0 h1 h2 => by omega, rfl⟩
  · rintro Γ ⟨i, x3, x4, x5, x6, er, hc, rfl⟩
    have hi : n ≤ i := by
      have := congrArg List.length er
      simp [itL] at this
      omega
    have e : nevB r b o = true := nev_iff.mpr fun s t h0 h1 h2 => hc s t h0 h1 (by omega)
    rw [e] at q
    repeat (first | (dsimp only [put, wipeG, List.set]) | (refine And.intro rfl ?_) | (refine And.intro True.intro ?_) | (refine And.intro ⟨rfl, rfl⟩ ?_) | (refine And.intro ⟨rfl, True.intro⟩ ?_) | (refine And.intro (by first | assumption | omega | exact .inr (.inl (fm_small _ (by decide) (by decide))) | (simp [put, wipeG]; done) | (simp [put, wipeG]; omega)) ?_) | (intro _))
    exact q
  · rintro d rr Γ K ⟨i, x3, x4, x5, x6, er, hc, rfl⟩ hK
    obtain ⟨hi, rfl, er2⟩ := it_drop er
    have ci := cut_ints o i
    have ti := it_take o (m := i) (by omega)
    repeat (first | (dsimp only [put, wipeG, List.set]) | (refine And.intro rfl ?_) | (refine And.intro True.intro ?_) | (refine And.intro ⟨rfl, rfl⟩ ?_) | (refine And.intro ⟨rfl, True.intro⟩ ?_) | (refine And.intro (by first | assumption | omega | exact .inr (.inl (fm_small _ (by decide) (by decide))) | (simp [put, wipeG]; done) | (simp [put, wipeG]; omega)) ?_) | (intro _))
    show wLoop _ _ _ (enumD (cutD (o.map D.int) none (some (i : Int)))) _ _
    rw [ci, ti]
    refine loop_rule (fun r2 Γ => ∃ (j : Nat) (x5 x6 : Option R), r2 = (itL o i).drop j ∧ (∀ t : Int, 0 ≤ t → t < j → crO r b o i t = false) ∧ Γ = [some (.dat (.tup (r.map dotD))), some (.dat (.tup (b.map dotD))), some (.dat (.tup (o.map D.int))), some (.dat (.int i)), some (.dat (.int (atI o i))), x5, x6]) (fun _ _ _ => True.intro) ?_ ?_ _ _ ⟨0, x5, x6, rfl, fun t h0 h1 => by omega, rfl⟩
    · rintro Γ ⟨j, x5, x6, er3, hc3, rfl⟩
      have hj : i ≤ j := by
        have := congrArg List.length er3
        simp [itL] at this
        omega
      refine hK _ ⟨i + 1, _, _, _, _, er2, fun s t h0 h1 h2 => ?_, rfl⟩
      rcases Int.lt_or_le s (i : Int) with h3 | h3
      · exact hc s t h0 h1 h3
      · have e : s = i := by omega
        subst e
        exact hc3 t h0 (by omega)
    · rintro d2 r2 Γ K3 ⟨j, x5, x6, er3, hc3, rfl⟩ hK3
      obtain ⟨hj, rfl, er4⟩ := it_drop er3
      have nx := fun (z : crO r b o i j = false) => hK3 [some (.dat (.tup (r.map dotD))), some (.dat (.tup (b.map dotD))), some (.dat (.tup (o.map D.int))), some (.dat (.int i)), some (.dat (.int (atI o i))), some (.dat (.int j)), some (.dat (.int (atI o j)))] ⟨j + 1, _, _, er4, fun t h0 h1 => by
        rcases Int.lt_or_le t (j : Int) with h3 | h3
        · exact hc3 t h0 h3
        · have e : t = j := by omega
          subst e
          exact z, rfl⟩
      have no := fun z => nev_no (r := r) (b := b) (o := o) (i := (i : Int)) (j := (j : Int)) (by omega) (by omega) (by omega) z
      have me := cross_four h ho (i := (i : Int)) (j := (j : Int)) (by omega) (by omega) (by omega)
      have oi := at_in ho (i := (i : Int)) (by omega) (by omega)
      have oj := at_in ho (i := (j : Int)) (by omega) (by omega)
      have m1 := at_ix (c := r) (i := (i : Int)) (by omega) (by omega)
      have m2 := at_ix (c := b) (i := atI o (i : Int)) oi.1 (by omega)
      have m3 := at_ix (c := r) (i := (j : Int)) (by omega) (by omega)
      have m4 := at_ix (c := b) (i := atI o (j : Int)) oj.1 (by omega)
      have d1 := dot_isDot (hr.box _ m1.2)
      have d2 := dot_isDot (hb.box _ m2.2)
      have d3 := dot_isDot (hr.box _ m3.2)
      have d4 := dot_isDot (hb.box _ m4.2)
      have y1 := m1.1
      have y2 := m2.1
      have y3 := m3.1
      have y4 := m4.1
      clear m1 m2 m3 m4 hK hK3 er er2 er3 er4 hc hc3 ci ti oi oj
      generalize crO r b o i j = cx at *
      generalize atC r (i : Int) = p1 at *
      generalize atC r (j : Int) = p3 at *
      generalize atI o (i : Int) = ai at *
      generalize atI o (j : Int) = aj at *
      generalize atC b ai = p2 at *
      generalize atC b aj = p4 at *
      obtain ⟨p10, p11⟩ := p1
      obtain ⟨p20, p21⟩ := p2
      obtain ⟨p30, p31⟩ := p3
      obtain ⟨p40, p41⟩ := p4
      repeat (first | (dsimp only [put, wipeG, List.set]) | (refine And.intro rfl ?_) | (refine And.intro True.intro ?_) | (refine And.intro ⟨rfl, rfl⟩ ?_) | (refine And.intro ⟨rfl, True.intro⟩ ?_) | (refine And.intro (by first | assumption | omega | exact .inr (.inl (fm_small _ (by decide) (by decide))) | (simp [put, wipeG]; done) | (simp [put, wipeG]; omega)) ?_) | (intro _))
      conv => whnf
      simp only [y1]
      repeat (first | (dsimp only [put, wipeG, List.set]) | (refine And.intro rfl ?_) | (refine And.intro True.intro ?_) | (refine And.intro ⟨rfl, rfl⟩ ?_) | (refine And.intro ⟨rfl, True.intro⟩ ?_) | (refine And.intro (by first | assumption | omega | exact .inr (.inl (fm_small _ (by decide) (by decide))) | (simp [put, wipeG]; done) | (simp [put, wipeG]; omega)) ?_) | (intro _))
      conv => whnf
      simp only [y2]
      repeat (first | (dsimp only [put, wipeG, List.set]) | (refine And.intro rfl ?_) | (refine And.intro True.intro ?_) | (refine And.intro ⟨rfl, rfl⟩ ?_) | (refine And.intro ⟨rfl, True.intro⟩ ?_) | (refine And.intro (by first | assumption | omega | exact .inr (.inl (fm_small _ (by decide) (by decide))) | (simp [put, wipeG]; done) | (simp [put, wipeG]; omega)) ?_) | (intro _))
      conv => whnf
      simp only [y3]
      repeat (first | (dsimp only [put, wipeG, List.set]) | (refine And.intro rfl ?_) | (refine And.intro True.intro ?_) | (refine And.intro ⟨rfl, rfl⟩ ?_) | (refine And.intro ⟨rfl, True.intro⟩ ?_) | (refine And.intro (by first | assumption | omega | exact .inr (.inl (fm_small _ (by decide) (by decide))) | (simp [put, wipeG]; done) | (simp [put, wipeG]; omega)) ?_) | (intro _))
      conv => whnf
      simp only [y4]
      repeat (first | (dsimp only [put, wipeG, List.set]) | (refine And.intro rfl ?_) | (refine And.intro True.intro ?_) | (refine And.intro ⟨rfl, rfl⟩ ?_) | (refine And.intro ⟨rfl, True.intro⟩ ?_) | (refine And.intro (by first | assumption | omega | exact .inr (.inl (fm_small _ (by decide) (by decide))) | (simp [put, wipeG]; done) | (simp [put, wipeG]; omega)) ?_) | (intro _))
      refine ⟨[_, _, _, _], rfl, d1, d2, d3, d4, ?_⟩
      rw [me]
      cases cx with
      | false => exact nx rfl
      | true =>
        rw [no rfl] at q
        repeat (first | (dsimp only [put, wipeG, List.set]) | (refine And.intro rfl ?_) | (refine And.intro True.intro ?_) | (refine And.intro ⟨rfl, rfl⟩ ?_) | (refine And.intro ⟨rfl, True.intro⟩ ?_) | (refine And.intro (by first | assumption | omega | exact .inr (.inl (fm_small _ (by decide) (by decide))) | (simp [put, wipeG]; done) | (simp [put, wipeG]; omega)) ?_) | (intro _))
        exact q
theorem ok_never_cross (E : Fx K mg) : FnG P w K mg base CX0 4 E.f_never_cross E.d_never_cross ["red", "blue", "names"] (spOf K 3 S_never_cross) := fn_data E.F_never_cross sc_never_cross (wb := w_never_cross) (fun c hK cdv A outer s H Ex hr hgd => by
  subst hK
  have hu1 := hu_of hr
  have hu0 := Nat.lt_of_succ_lt hu1
  have hr65 := unit65 hr
  have sc := sc_never_cross
  exact psd_cons (psd_for PassesOwn.never rfl (pid_enum E.z_enumerate (pda_cons (pd_n 2) (pda_nil))) (pgd_tup rfl (pgds_cons (pgd_n (i := 3) sc.nd) (pgds_cons (pgd_n (i := 4) sc.nd) (pgds_nil (tg := []))))) (psd_one (psd_for PassesOwn.never rfl (pid_enum E.z_enumerate (pda_cons (pd_slice (pd_n 2) (pod_none) (pod_some (pd_n 3))) (pda_nil))) (pgd_tup rfl (pgds_cons (pgd_n (i := 5) sc.nd) (pgds_cons (pgd_n (i := 6) sc.nd) (pgds_nil (tg := []))))) (psd_one (psd_if (ptd_val (pd_call (ok_ways_meet E) rfl (hr.mono (by decide)) hgd E.g_ways_meet E.F_ways_meet.kp E.b_ways_meet (pda_cons (pd_sub hu1 (pd_n 0) (pd_n 3)) (pda_cons (pd_sub hu1 (pd_n 1) (pd_n 4)) (pda_cons (pd_sub hu1 (pd_n 0) (pd_n 5)) (pda_cons (pd_sub hu1 (pd_n 1) (pd_n 6)) (pda_nil))))))) (psd_one (psd_ret (pd_bl))) (psd_nil)))))) (psd_one (psd_ret (pd_bl)))) vc_never_cross
end
end Kd
end Dl
namespace Dl
namespace Kd
open PySem PySem.Spec PyProof.Rows
open L2
section
variable {P : Program} {w : World} {K : PySem.W.Frag} {mg : Str → Option Value} {base : Heap}
def unI : D → Int
  | .int i => i
  | _ => 0
theorem perm_ints {ys : List D} {l : List Int} (h : ys.Perm (l.map D.int)) : ∃ zs : List Int, zs.Perm l ∧ ys = zs.map D.int := by
  refine ⟨ys.map unI, ?_, ?_⟩
  · have := h.map unI
    rw [List.map_map] at this
    have e : (unI ∘ D.int) = id := rfl
    rwa [e, List.map_id] at this
  · rw [List.map_map]
    refine ((List.map_congr_left fun y hy => ?_).trans (List.map_id ys)).symm
    obtain ⟨i, _, rfl⟩ := List.mem_map.mp (h.mem_iff.mp hy)
    rfl
def gdF (r b : List (Int × Int)) : D → Option D
  | .tup l => if nevB r b (l.map unI) then some (.tup l) else none
  | d => some d
theorem un_map (o : List Int) : (o.map D.int).map unI = o := by
  rw [List.map_map]
  exact List.map_id o
theorem gd_map (r b : List (Int × Int)) : ∀ L : List (List Int), (L.map lotD).filterMap (gdF r b) = (L.filter (nevB r b)).map lotD
  | [] => rfl
  | o :: L => by
    rw [List.map_cons, List.filterMap_cons, List.filter_cons, gd_map r b L]
    rw [show gdF r b (lotD o) = if nevB r b ((o.map D.int).map unI) then some (lotD o) else none from rfl, un_map]
    cases nevB r b o <;> rfl
theorem ordN_many {n : Nat} (h : n ≤ 5) : (ordN n).length ≤ 3125 := Nat.le_trans (ord_big (idL n) (by rw [idL_len]; exact h) n) (Nat.pow_le_pow_right (show 1 ≤ 5 by decide) h)
theorem good_many (r b : List (Int × Int)) {n : Nat} (h : n ≤ 5) : (goodL r b n).length ≤ 3125 := Nat.le_trans (List.length_filter_le _ _) (ordN_many h)
def S_all_pairs : Dl.Spec := datS fun ds k => ∃ r b n, ds = [crowdD r, crowdD b] ∧ TwoOk r b n ∧ k (.lst ((goodL r b n).map lotD))
def w_all_pairs : WS := wRet (wLc [2] (wiSeq (wCall 1 S_all_orders (waC (wCB gLen (waC (wN 0) (waN))) (waN)))) (stN 2) (wTv (wCall 3 S_never_cross (waC (wN 0) (waC (wN 1) (waC (wN 2) (waN)))))) (wN 2))
theorem vc_all_pairs : ∀ as rs Qd, ArRs as rs → rs.length = 2 → S_all_pairs as Qd → w_all_pairs (fin rs Qd) (gm0 3 rs) := vc_dat fun ds k hn hp => by
  obtain ⟨r, b, n, rfl, h, q⟩ := hp
  have om := ordN_many h.n5
  have rl : ((r.map dotD).length : Int) = (n : Int) := by rw [List.length_map, h.lr]
  show w_all_pairs (finD k) [some (.dat (.tup (r.map dotD))), some (.dat (.tup (b.map dotD))), none]
  repeat (first | (dsimp only [put, wipeG, List.set]) | (refine And.intro rfl ?_) | (refine And.intro True.intro ?_) | (refine And.intro ⟨rfl, rfl⟩ ?_) | (refine And.intro ⟨rfl, True.intro⟩ ?_) | (refine And.intro (by first | assumption | omega | exact .inr (.inl (fm_small _ (by decide) (by decide))) | (simp [put, wipeG]; done) | (simp [put, wipeG]; omega)) ?_) | (intro _))
  rw [rl]
  refine ⟨[_], rfl, n, rfl, h.n5, ?_, ?_⟩
  all_goals (
    repeat (first | (dsimp only [put, wipeG, List.set]) | (refine And.intro rfl ?_) | (refine And.intro True.intro ?_) | (refine And.intro ⟨rfl, rfl⟩ ?_) | (refine And.intro ⟨rfl, True.intro⟩ ?_) | (refine And.intro (by first | assumption | omega | exact .inr (.inl (fm_small _ (by decide) (by decide))) | (simp [put, wipeG]; done) | (simp [put, wipeG]; omega)) ?_) | (intro _))
    refine lc_fm (gdF r b) _ _ (by rw [List.length_map]; omega) (by first | rfl | exact True.intro) (fun d hd K hK => ?_) ?_
    · obtain ⟨o, ho, rfl⟩ := List.mem_map.mp hd
      have po := ord_perm ho
      have hK' : K (if nevB r b ((o.map D.int).map unI) then some (lotD o) else none) _ := hK
      rw [un_map] at hK'
      repeat (first | (dsimp only [put, wipeG, List.set]) | (refine And.intro rfl ?_) | (refine And.intro True.intro ?_) | (refine And.intro ⟨rfl, rfl⟩ ?_) | (refine And.intro ⟨rfl, True.intro⟩ ?_) | (refine And.intro (by first | assumption | omega | exact .inr (.inl (fm_small _ (by decide) (by decide))) | (simp [put, wipeG]; done) | (simp [put, wipeG]; omega)) ?_) | (intro _))
      refine ⟨[_, _, _], rfl, r, b, n, o, rfl, h, po, ?_⟩
      cases hB : nevB r b o with
      | false =>
        rw [hB] at hK'
        exact hK'
      | true =>
        rw [hB] at hK'
        repeat (first | (dsimp only [put, wipeG, List.set]) | (refine And.intro rfl ?_) | (refine And.intro True.intro ?_) | (refine And.intro ⟨rfl, rfl⟩ ?_) | (refine And.intro ⟨rfl, True.intro⟩ ?_) | (refine And.intro (by first | assumption | omega | exact .inr (.inl (fm_small _ (by decide) (by decide))) | (simp [put, wipeG]; done) | (simp [put, wipeG]; omega)) ?_) | (intro _))
        exact hK'
    · rw [gd_map]
      repeat (first | (dsimp only [put, wipeG, List.set]) | (refine And.intro rfl ?_) | (refine And.intro True.intro ?_) | (refine And.intro ⟨rfl, rfl⟩ ?_) | (refine And.intro ⟨rfl, True.intro⟩ ?_) | (refine And.intro (by first | assumption | omega | exact .inr (.inl (fm_small _ (by decide) (by decide))) | (simp [put, wipeG]; done) | (simp [put, wipeG]; omega)) ?_) | (intro _))
      exact q)
theorem ok_all_pairs (E : Fx K mg) : FnG P w K mg base CX0 5 E.f_all_pairs E.d_all_pairs ["red", "blue"] (spOf K 2 S_all_pairs) := fn_data E.F_all_pairs sc_all_pairs (wb := w_all_pairs) (fun c hK cdv A outer s H Ex hr hgd => by
  subst hK
  have hu1 := hu_of hr
  have hu0 := Nat.lt_of_succ_lt hu1
  have hr65 := unit65 hr
  have sc := sc_all_pairs
  exact psd_one (psd_ret (pd_lc (own := [("names", 2)]) (tgs := [2]) rfl sc.nd (pid_seq (pd_call (ok_all_orders E) rfl (hr.mono (by decide)) hgd E.g_all_orders E.F_all_orders.kp E.b_all_orders (pda_cons (pd_callB ok_len E.z_len (by decide +kernel) (pda_cons (pd_n 0) (pda_nil))) (pda_nil)))) (by (show blkC ["red", "blue", "names"] (defScope s_all_pairs) _ _ = true); decide +kernel) (by decide) (fun _ _ _ _ _ => pgd_n (i := 2) sc.nd) (fun _ _ _ _ _ => ptsd_one (ptd_val (pd_call (ok_never_cross E) rfl (hr.mono (by decide)) hgd E.g_never_cross E.F_never_cross.kp E.b_never_cross (pda_cons (pd_n 0) (pda_cons (pd_n 1) (pda_cons (pd_n 2) (pda_nil))))))) (fun _ _ _ _ _ => pd_n 2)))) vc_all_pairs
def S_pairs_shown : Dl.Spec := datS fun ds k => ∃ r b n, ds = [crowdD r, crowdD b] ∧ TwoOk r b n ∧ ∀ o L, goodL r b n = o :: L → k (.dat (lotD o))
def w_pairs_shown : WS := wSeq (wDrop (wCall 2 S_check_paired (waC (wN 0) (waC (wN 1) (waN))))) (wRet (wBin gAt (wCall 2 S_all_pairs (waC (wN 0) (waC (wN 1) (waN)))) (wD (.int 0))))
theorem vc_pairs_shown : ∀ as rs Qd, ArRs as rs → rs.length = 2 → S_pairs_shown as Qd → w_pairs_shown (fin rs Qd) (gm0 2 rs) := vc_dat fun ds k hn hp => by
  obtain ⟨r, b, n, rfl, h, q⟩ := hp
  have gs := good_some h
  show w_pairs_shown (finD k) [some (.dat (crowdD r)), some (.dat (crowdD b))]
  repeat (first | (dsimp only [put, wipeG, List.set]) | (refine And.intro rfl ?_) | (refine And.intro True.intro ?_) | (refine And.intro ⟨rfl, rfl⟩ ?_) | (refine And.intro ⟨rfl, True.intro⟩ ?_) | (refine And.intro (by first | assumption | omega | exact .inr (.inl (fm_small _ (by decide) (by decide))) | (simp [put, wipeG]; done) | (simp [put, wipeG]; omega)) ?_) | (intro _))
  refine ⟨[_, _], rfl, r, b, n, rfl, h, ?_⟩
  repeat (first | (dsimp only [put, wipeG, List.set]) | (refine And.intro rfl ?_) | (refine And.intro True.intro ?_) | (refine And.intro ⟨rfl, rfl⟩ ?_) | (refine And.intro ⟨rfl, True.intro⟩ ?_) | (refine And.intro (by first | assumption | omega | exact .inr (.inl (fm_small _ (by decide) (by decide))) | (simp [put, wipeG]; done) | (simp [put, wipeG]; omega)) ?_) | (intro _))
  refine ⟨[_, _], rfl, r, b, n, rfl, h, ?_⟩
  cases hg : goodL r b n with
  | nil => exact absurd hg gs
  | cons o L =>
    have qq := q o L hg
    repeat (first | (dsimp only [put, wipeG, List.set]) | (refine And.intro rfl ?_) | (refine And.intro True.intro ?_) | (refine And.intro ⟨rfl, rfl⟩ ?_) | (refine And.intro ⟨rfl, True.intro⟩ ?_) | (refine And.intro (by first | assumption | omega | exact .inr (.inl (fm_small _ (by decide) (by decide))) | (simp [put, wipeG]; done) | (simp [put, wipeG]; omega)) ?_) | (intro _))
    exact qq
theorem ok_pairs_shown (E : Fx K mg) : FnG P w K mg base CX0 7 E.f_pairs_shown E.d_pairs_shown ["red", "blue"] (spOf K 2 S_pairs_shown) := fn_data E.F_pairs_shown sc_pairs_shown (wb := w_pairs_shown) (fun c hK cdv A outer s H Ex hr hgd => by
  subst hK
  have hu1 := hu_of hr
  have hu0 := Nat.lt_of_succ_lt hu1
  have hr65 := unit65 hr
  have sc := sc_pairs_shown
  exact psd_cons (psd_expr (pd_call (ok_check_paired E) rfl (hr.mono (by decide)) hgd E.g_check_paired E.F_check_paired.kp E.b_check_paired (pda_cons (pd_n 0) (pda_cons (pd_n 1) (pda_nil))))) (psd_one (psd_ret (pd_sub hu1 (pd_call (ok_all_pairs E) rfl (hr.mono (by decide)) hgd E.g_all_pairs E.F_all_pairs.kp E.b_all_pairs (pda_cons (pd_n 0) (pda_cons (pd_n 1) (pda_nil)))) (pd_int))))) vc_pairs_shown
def S_pairs_many : Dl.Spec := datS fun ds k => ∃ r b n, ds = [crowdD r, crowdD b] ∧ TwoOk r b n ∧ k (.dat (.int (goodL r b n).length))
def w_pairs_many : WS := wSeq (wDrop (wCall 2 S_check_paired (waC (wN 0) (waC (wN 1) (waN))))) (wRet (wCB gLen (waC (wCall 2 S_all_pairs (waC (wN 0) (waC (wN 1) (waN)))) (waN))))
theorem vc_pairs_many : ∀ as rs Qd, ArRs as rs → rs.length = 2 → S_pairs_many as Qd → w_pairs_many (fin rs Qd) (gm0 2 rs) := vc_dat fun ds k hn hp => by
  obtain ⟨r, b, n, rfl, h, q⟩ := hp
  have el : ((((goodL r b n).map lotD).length : Nat) : Int) = ((goodL r b n).length : Int) := by rw [List.length_map]
  show w_pairs_many (finD k) [some (.dat (crowdD r)), some (.dat (crowdD b))]
  repeat (first | (dsimp only [put, wipeG, List.set]) | (refine And.intro rfl ?_) | (refine And.intro True.intro ?_) | (refine And.intro ⟨rfl, rfl⟩ ?_) | (refine And.intro ⟨rfl, True.intro⟩ ?_) | (refine And.intro (by first | assumption | omega | exact .inr (.inl (fm_small _ (by decide) (by decide))) | (simp [put, wipeG]; done) | (simp [put, wipeG]; omega)) ?_) | (intro _))
  refine ⟨[_, _], rfl, r, b, n, rfl, h, ?_⟩
  repeat (first | (dsimp only [put, wipeG, List.set]) | (refine And.intro rfl ?_) | (refine And.intro True.intro ?_) | (refine And.intro ⟨rfl, rfl⟩ ?_) | (refine And.intro ⟨rfl, True.intro⟩ ?_) | (refine And.intro (by first | assumption | omega | exact .inr (.inl (fm_small _ (by decide) (by decide))) | (simp [put, wipeG]; done) | (simp [put, wipeG]; omega)) ?_) | (intro _))
  refine ⟨[_, _], rfl, r, b, n, rfl, h, ?_⟩
  rw [← el] at q
  repeat (first | (dsimp only [put, wipeG, List.set]) | (refine And.intro rfl ?_) | (refine And.intro True.intro ?_) | (refine And.intro ⟨rfl, rfl⟩ ?_) | (refine And.intro ⟨rfl, True.intro⟩ ?_) | (refine And.intro (by first | assumption | omega | exact .inr (.inl (fm_small _ (by decide) (by decide))) | (simp [put, wipeG]; done) | (simp [put, wipeG]; omega)) ?_) | (intro _))
  exact q
theorem ok_pairs_many (E : Fx K mg) : FnG P w K mg base CX0 7 E.f_pairs_many E.d_pairs_many ["red", "blue"] (spOf K 2 S_pairs_many) := fn_data E.F_pairs_many sc_pairs_many (wb := w_pairs_many) (fun c hK cdv A outer s H Ex hr hgd => by
  subst hK
  have hu1 := hu_of hr
  have hu0 := Nat.lt_of_succ_lt hu1
  have hr65 := unit65 hr
  have sc := sc_pairs_many
  exact psd_cons (psd_expr (pd_call (ok_check_paired E) rfl (hr.mono (by decide)) hgd E.g_check_paired E.F_check_paired.kp E.b_check_paired (pda_cons (pd_n 0) (pda_cons (pd_n 1) (pda_nil))))) (psd_one (psd_ret (pd_callB ok_len E.z_len (by decide +kernel) (pda_cons (pd_call (ok_all_pairs E) rfl (hr.mono (by decide)) hgd E.g_all_pairs E.F_all_pairs.kp E.b_all_pairs (pda_cons (pd_n 0) (pda_cons (pd_n 1) (pda_nil)))) (pda_nil)))))) vc_pairs_many
end
end Kd
end Dl
namespace Dl
namespace Kd
open PySem PySem.Spec PyProof.Rows
open L2
section
variable {P : Program} {w : World} {K : PySem.W.Frag} {mg : Str → Option Value} {base : Heap}
/-! ### the law's crossing -/
def prL (p : Int × Int) : List Int := [p.1, p.2]
theorem prL_nd (c : List (Int × Int)) : (c.map prL).Nodup ↔ c.Nodup := by
  constructor
  · exact fun z => (List.pairwise_map.mp z).imp fun h e => h (by rw [e])
  · refine fun z => List.pairwise_map.mpr (z.imp fun {a b} h e => h ?_)
    simp only [prL, List.cons.injEq, and_true] at e
    exact Prod.ext e.1 e.2
theorem sgn_two {x y : Int} (hx : x ≠ 0) (hy : y ≠ 0) : (!decide (sgn x = sgn y)) = decide (sgn x * sgn y < 0) := by
  rcases sgn_is x with ⟨a, e⟩ | ⟨a, e⟩ | ⟨a, e⟩ <;> rcases sgn_is y with ⟨b, f⟩ | ⟨b, f⟩ | ⟨b, f⟩ <;> rw [e, f] <;> first | rfl | (exfalso; omega)
def S__law_do_cross : Dl.Spec := datS fun ds k => ∃ a b c d, ds = [dotD a, dotD b, dotD c, dotD d] ∧ (isDot (dotD a) = true ∧ isDot (dotD b) = true ∧ isDot (dotD c) = true ∧ isDot (dotD d) = true) ∧ [a, b, c, d].Nodup ∧ (areaI a b c ≠ 0 ∧ areaI a b d ≠ 0 ∧ areaI c d a ≠ 0 ∧ areaI c d b ≠ 0) ∧ k (.dat (.bl (crB a b c d)))
def w__law_do_cross : WS := wSeq (wIfS (wTv (wBin gLt (wLenSetT (wLst (waC (wN 0) (waC (wN 1) (waC (wN 2) (waC (wN 3) (waN))))))) (wD (.int 4)))) (wRet (wD (.bl false))) (wNil)) (wRet (wAndV (wBin gNeA (wCall 3 S__law_turn (waC (wN 0) (waC (wN 1) (waC (wN 2) (waN))))) (wCall 3 S__law_turn (waC (wN 0) (waC (wN 1) (waC (wN 3) (waN)))))) (wBin gNeA (wCall 3 S__law_turn (waC (wN 2) (waC (wN 3) (waC (wN 0) (waN))))) (wCall 3 S__law_turn (waC (wN 2) (waC (wN 3) (waC (wN 1) (waN))))))))
theorem vc__law_do_cross : ∀ as rs Qd, ArRs as rs → rs.length = 4 → S__law_do_cross as Qd → w__law_do_cross (fin rs Qd) (gm0 4 rs) := vc_dat fun ds k hn hp => by
  obtain ⟨a, b, c, d, rfl, ⟨h1, h2, h3, h4⟩, nd, ⟨n1, n2, n3, n4⟩, q⟩ := hp
  have q' : k (.dat (.bl (!decide (turnI a b c = turnI a b d) && !decide (turnI c d a = turnI c d b)))) := by
    unfold turnI
    rw [sgn_two n1 n2, sgn_two n3 n4]
    exact q
  have nd2 := (prL_nd [a, b, c, d]).mpr nd
  clear q nd n1 n2 n3 n4
  obtain ⟨a0, a1⟩ := a
  obtain ⟨b0, b1⟩ := b
  obtain ⟨c0, c1⟩ := c
  obtain ⟨d0, d1⟩ := d
  show w__law_do_cross (finD k) [some (.dat (.tup [.int a0, .int a1])), some (.dat (.tup [.int b0, .int b1])), some (.dat (.tup [.int c0, .int c1])), some (.dat (.tup [.int d0, .int d1]))]
  repeat (first | (dsimp only [put, wipeG, List.set]) | (refine And.intro rfl ?_) | (refine And.intro True.intro ?_) | (refine And.intro ⟨rfl, rfl⟩ ?_) | (refine And.intro ⟨rfl, True.intro⟩ ?_) | (refine And.intro (by first | assumption | omega | exact .inr (.inl (fm_small _ (by decide) (by decide))) | (simp [put, wipeG]; done) | (simp [put, wipeG]; omega)) ?_) | (intro _))
  refine ⟨[(a0, a1), (b0, b1), (c0, c1), (d0, d1)].map prL, rfl, (Nat.le_of_ble_eq_true rfl : 5 ≤ 64), fun n e1 _ => ?_⟩
  have e2 : n = 4 := e1.mpr nd2
  subst e2
  repeat (first | (dsimp only [put, wipeG, List.set]) | (refine And.intro rfl ?_) | (refine And.intro True.intro ?_) | (refine And.intro ⟨rfl, rfl⟩ ?_) | (refine And.intro ⟨rfl, True.intro⟩ ?_) | (refine And.intro (by first | assumption | omega | exact .inr (.inl (fm_small _ (by decide) (by decide))) | (simp [put, wipeG]; done) | (simp [put, wipeG]; omega)) ?_) | (intro _))
  conv => whnf
  refine ⟨[_, _, _], rfl, h1, h2, h3, ?_⟩
  repeat (first | (dsimp only [put, wipeG, List.set]) | (refine And.intro rfl ?_) | (refine And.intro True.intro ?_) | (refine And.intro ⟨rfl, rfl⟩ ?_) | (refine And.intro ⟨rfl, True.intro⟩ ?_) | (refine And.intro (by first | assumption | omega | exact .inr (.inl (fm_small _ (by decide) (by decide))) | (simp [put, wipeG]; done) | (simp [put, wipeG]; omega)) ?_) | (intro _))
  refine ⟨[_, _, _], rfl, h1, h2, h4, ?_⟩
  generalize turnI (a0, a1) (b0, b1) (c0, c1) = t1 at *
  generalize turnI (a0, a1) (b0, b1) (d0, d1) = t2 at *
  repeat (first | (dsimp only [put, wipeG, List.set]) | (refine And.intro rfl ?_) | (refine And.intro True.intro ?_) | (refine And.intro ⟨rfl, rfl⟩ ?_) | (refine And.intro ⟨rfl, True.intro⟩ ?_) | (refine And.intro (by first | assumption | omega | exact .inr (.inl (fm_small _ (by decide) (by decide))) | (simp [put, wipeG]; done) | (simp [put, wipeG]; omega)) ?_) | (intro _))
  conv => whnf
  rw [ne_int]
  cases hB : decide (t1 = t2) with
  | true =>
    rw [hB] at q'
    exact q'
  | false =>
    rw [hB] at q'
    repeat (first | (dsimp only [put, wipeG, List.set]) | (refine And.intro rfl ?_) | (refine And.intro True.intro ?_) | (refine And.intro ⟨rfl, rfl⟩ ?_) | (refine And.intro ⟨rfl, True.intro⟩ ?_) | (refine And.intro (by first | assumption | omega | exact .inr (.inl (fm_small _ (by decide) (by decide))) | (simp [put, wipeG]; done) | (simp [put, wipeG]; omega)) ?_) | (intro _))
    refine ⟨[_, _, _], rfl, h3, h4, h1, ?_⟩
    repeat (first | (dsimp only [put, wipeG, List.set]) | (refine And.intro rfl ?_) | (refine And.intro True.intro ?_) | (refine And.intro ⟨rfl, rfl⟩ ?_) | (refine And.intro ⟨rfl, True.intro⟩ ?_) | (refine And.intro (by first | assumption | omega | exact .inr (.inl (fm_small _ (by decide) (by decide))) | (simp [put, wipeG]; done) | (simp [put, wipeG]; omega)) ?_) | (intro _))
    refine ⟨[_, _, _], rfl, h3, h4, h2, ?_⟩
    generalize turnI (c0, c1) (d0, d1) (a0, a1) = t3 at *
    generalize turnI (c0, c1) (d0, d1) (b0, b1) = t4 at *
    repeat (first | (dsimp only [put, wipeG, List.set]) | (refine And.intro rfl ?_) | (refine And.intro True.intro ?_) | (refine And.intro ⟨rfl, rfl⟩ ?_) | (refine And.intro ⟨rfl, True.intro⟩ ?_) | (refine And.intro (by first | assumption | omega | exact .inr (.inl (fm_small _ (by decide) (by decide))) | (simp [put, wipeG]; done) | (simp [put, wipeG]; omega)) ?_) | (intro _))
    conv => whnf
    rw [ne_int]
    exact q'
theorem ok__law_do_cross (E : Fx K mg) : FnG P w K mg base CX0 3 E.f__law_do_cross E.d__law_do_cross ["a", "b", "c", "d"] (spOf K 4 S__law_do_cross) := fn_data E.F__law_do_cross sc__law_do_cross (wb := w__law_do_cross) (fun c hK cdv A outer s H Ex hr hgd => by
  subst hK
  have hu1 := hu_of hr
  have hu0 := Nat.lt_of_succ_lt hu1
  have hr65 := unit65 hr
  have sc := sc__law_do_cross
  exact psd_cons (psd_if (ptd_cmp ok_lt (pd_lenSetT rfl (Nat.lt_of_succ_lt hr65) rfl E.z_len rfl E.z_set (pd_lst (pda_cons (pd_n 0) (pda_cons (pd_n 1) (pda_cons (pd_n 2) (pda_cons (pd_n 3) (pda_nil))))))) (pd_int)) (psd_one (psd_ret (pd_bl))) (psd_nil)) (psd_one (psd_ret (pd_and (pd_cmp (ok_neA hr.units) (pd_call (ok__law_turn E) rfl (hr.mono (by decide)) hgd E.g__law_turn E.F__law_turn.kp E.b__law_turn (pda_cons (pd_n 0) (pda_cons (pd_n 1) (pda_cons (pd_n 2) (pda_nil))))) (pd_call (ok__law_turn E) rfl (hr.mono (by decide)) hgd E.g__law_turn E.F__law_turn.kp E.b__law_turn (pda_cons (pd_n 0) (pda_cons (pd_n 1) (pda_cons (pd_n 3) (pda_nil)))))) (pd_one (pd_cmp (ok_neA hr.units) (pd_call (ok__law_turn E) rfl (hr.mono (by decide)) hgd E.g__law_turn E.F__law_turn.kp E.b__law_turn (pda_cons (pd_n 2) (pda_cons (pd_n 3) (pda_cons (pd_n 0) (pda_nil))))) (pd_call (ok__law_turn E) rfl (hr.mono (by decide)) hgd E.g__law_turn E.F__law_turn.kp E.b__law_turn (pda_cons (pd_n 2) (pda_cons (pd_n 3) (pda_cons (pd_n 1) (pda_nil))))))))))) vc__law_do_cross
end
end Kd
end Dl
namespace Dl
namespace Kd
open PySem PySem.Spec PyProof.Rows
open L2
section
variable {P : Program} {w : World} {K : PySem.W.Frag} {mg : Str → Option Value} {base : Heap}
/-! ### the law's look at a row -/
theorem rng_drop {m i : Nat} {d : D} {r : List D} (h : d :: r = (rngL 0 m).drop i) : i < m ∧ d = .int i ∧ r = (rngL 0 m).drop (i + 1) := by
  have hlt : i < m := by
    rcases Nat.lt_or_ge i m with h1 | h1
    · exact h1
    · rw [List.drop_eq_nil_of_le (by simp [rngL]; exact h1)] at h
      cases h
  rw [List.drop_eq_getElem_cons (by simp [rngL]; exact hlt)] at h
  injection h with h1 h2
  exact ⟨hlt, by rw [h1]; simp [rngL], h2⟩
theorem cross_data {r b : List (Int × Int)} {n : Nat} (h : TwoOk r b n) {o : List Int} (ho : o.Perm (idL n)) {i j : Int} (h0 : 0 ≤ j) (h1 : j < i) (h2 : i < n) :
    [atC r i, atC b (atI o i), atC r j, atC b (atI o j)].Nodup ∧ areaI (atC r i) (atC b (atI o i)) (atC r j) ≠ 0 ∧ areaI (atC r i) (atC b (atI o i)) (atC b (atI o j)) ≠ 0 ∧ areaI (atC r j) (atC b (atI o j)) (atC r i) ≠ 0 ∧ areaI (atC r j) (atC b (atI o j)) (atC b (atI o i)) ≠ 0 := by
  have lr := h.lr
  have lb := h.lb
  have lc : (r ++ b).length = n + n := by rw [List.length_append]; omega
  have oi := at_in ho (i := i) (by omega) h2
  have oj := at_in ho (i := j) h0 (by omega)
  have ne : atI o i ≠ atI o j := fun e => by
    have := at_inj ho (by omega) h2 h0 (by omega) e
    omega
  have e1 := at_left (r := r) b (i := i) (by omega) (by omega)
  have e2 := at_left (r := r) b (i := j) (by omega) (by omega)
  have e3 := at_right r (b := b) (i := atI o i) oi.1
  have e4 := at_right r (b := b) (i := atI o j) oj.1
  have fa := fun (x y z : Int) (hx : 0 ≤ x ∧ x < n + n) (hy : 0 ≤ y ∧ y < n + n) (hz : 0 ≤ z ∧ z < n + n) a b' c' => free_any h.free (i := x) (j := y) (k := z) (by omega) (by omega) (by omega) a b' c'
  have f1 := fa i ((r.length : Int) + atI o i) j (by omega) (by omega) (by omega) (by omega) (by omega) (by omega)
  have f2 := fa i ((r.length : Int) + atI o i) ((r.length : Int) + atI o j) (by omega) (by omega) (by omega) (by omega) (by omega) (by omega)
  have f3 := fa j ((r.length : Int) + atI o j) i (by omega) (by omega) (by omega) (by omega) (by omega) (by omega)
  have f4 := fa j ((r.length : Int) + atI o j) ((r.length : Int) + atI o i) (by omega) (by omega) (by omega) (by omega) (by omega) (by omega)
  rw [e1, e2, e3] at f1
  rw [e1, e3, e4] at f2
  rw [e1, e2, e4] at f3
  rw [e2, e3, e4] at f4
  refine ⟨?_, f1, f2, f3, f4⟩
  have z1 : ∀ p q : Int × Int, areaI p p q = 0 := fun p q => by unfold areaI; grind
  have z2 : ∀ p q : Int × Int, areaI p q p = 0 := fun p q => by unfold areaI; grind
  have z3 : ∀ p q : Int × Int, areaI p q q = 0 := fun p q => by unfold areaI; grind
  generalize atC r i = p1 at *
  generalize atC r j = p3 at *
  generalize atC b (atI o i) = p2 at *
  generalize atC b (atI o j) = p4 at *
  simp only [List.nodup_cons, List.mem_cons, List.not_mem_nil, or_false, not_or, not_false_eq_true, List.nodup_nil, and_true]
  refine ⟨⟨fun e => f1 (by rw [e]; exact z1 _ _), fun e => f1 (by rw [e]; exact z2 _ _), fun e => f2 (by rw [e]; exact z2 _ _)⟩, ⟨fun e => f1 (by rw [e]; exact z3 _ _), fun e => f2 (by rw [e]; exact z3 _ _)⟩, fun e => f3 (by rw [e]; exact z1 _ _)⟩
def S__law_are_pairs : Dl.Spec := datS fun ds k => ∃ r b n o, ds = [crowdD r, crowdD b, lotD o] ∧ TwoOk r b n ∧ o.Perm (idL n) ∧ k (.dat (.bl (nevB r b o)))
def w__law_are_pairs : WS := wSeq (wFor (wiR1 (waC (wCB gLen (waC (wN 2) (waN))) (waN))) (stN 3) (wFor (wiR1 (waC (wN 3) (waN))) (stN 4) (wIfS (wTv (wCall 4 S__law_do_cross (waC (wBin gAt (wN 0) (wN 3)) (waC (wBin gAt (wN 1) (wBin gAt (wN 2) (wN 3))) (waC (wBin gAt (wN 0) (wN 4)) (waC (wBin gAt (wN 1) (wBin gAt (wN 2) (wN 4))) (waN))))))) (wRet (wD (.bl false))) (wNil)))) (wRet (wD (.bl true)))
theorem vc__law_are_pairs : ∀ as rs Qd, ArRs as rs → rs.length = 3 → S__law_are_pairs as Qd → w__law_are_pairs (fin rs Qd) (gm0 5 rs) := vc_dat fun ds k hn hp => by
  obtain ⟨r, b, n, o, rfl, h, ho, q⟩ := hp
  obtain ⟨hr, hb⟩ := two_left h
  have lr := h.lr
  have lb := h.lb
  have n5 := h.n5
  have lo := ho.length_eq
  rw [idL_len] at lo
  show w__law_are_pairs (finD k) [some (.dat (.tup (r.map dotD))), some (.dat (.tup (b.map dotD))), some (.dat (.tup (o.map D.int))), none, none]
  have lo2 : (((o.map D.int).length : Nat) : Int).toNat = n := by rw [List.length_map, lo, Int.toNat_natCast]
  repeat (first | (dsimp only [put, wipeG, List.set]) | (refine And.intro rfl ?_) | (refine And.intro True.intro ?_) | (refine And.intro ⟨rfl, rfl⟩ ?_) | (refine And.intro ⟨rfl, True.intro⟩ ?_) | (refine And.intro (by first | assumption | omega | exact .inr (.inl (fm_small _ (by decide) (by decide))) | (simp [put, wipeG]; done) | (simp [put, wipeG]; omega)) ?_) | (intro _))
  show wLoop _ _ _ (rngL 0 (((o.map D.int).length : Nat) : Int).toNat) _ _
  rw [lo2]
  refine loop_rule (fun rr Γ => ∃ (i : Nat) (x3 x4 : Option R), rr = (rngL 0 n).drop i ∧ (∀ s t : Int, 0 ≤ t → t < s → s < i → crO r b o s t = false) ∧ Γ = [some (.dat (.tup (r.map dotD))), some (.dat (.tup (b.map dotD))), some (.dat (.tup (o.map D.int))), x3, x4]) (fun _ _ _ => True.intro) ?_ ?_ _ _ ⟨0, none, none, rfl, fun s t h0 h1 h2 => by omega, rfl⟩
  · rintro Γ ⟨i, x3, x4, er, hc, rfl⟩
    have hi : n ≤ i := by
      have := congrArg List.length er
      simp [rngL] at this
      omega
    have e : nevB r b o = true := nev_iff.mpr fun s t h0 h1 h2 => hc s t h0 h1 (by omega)
    rw [e] at q
    repeat (first | (dsimp only [put, wipeG, List.set]) | (refine And.intro rfl ?_) | (refine And.intro True.intro ?_) | (refine And.intro ⟨rfl, rfl⟩ ?_) | (refine And.intro ⟨rfl, True.intro⟩ ?_) | (refine And.intro (by first | assumption | omega | exact .inr (.inl (fm_small _ (by decide) (by decide))) | (simp [put, wipeG]; done) | (simp [put, wipeG]; omega)) ?_) | (intro _))
    exact q
  · rintro d rr Γ K ⟨i, x3, x4, er, hc, rfl⟩ hK
    obtain ⟨hi, rfl, er2⟩ := rng_drop er
    repeat (first | (dsimp only [put, wipeG, List.set]) | (refine And.intro rfl ?_) | (refine And.intro True.intro ?_) | (refine And.intro ⟨rfl, rfl⟩ ?_) | (refine And.intro ⟨rfl, True.intro⟩ ?_) | (refine And.intro (by first | assumption | omega | exact .inr (.inl (fm_small _ (by decide) (by decide))) | (simp [put, wipeG]; done) | (simp [put, wipeG]; omega)) ?_) | (intro _))
    show wLoop _ _ _ (rngL 0 ((i : Nat) : Int).toNat) _ _
    rw [Int.toNat_natCast]
    refine loop_rule (fun r2 Γ => ∃ (j : Nat) (x4 : Option R), r2 = (rngL 0 i).drop j ∧ (∀ t : Int, 0 ≤ t → t < j → crO r b o i t = false) ∧ Γ = [some (.dat (.tup (r.map dotD))), some (.dat (.tup (b.map dotD))), some (.dat (.tup (o.map D.int))), some (.dat (.int i)), x4]) (fun _ _ _ => True.intro) ?_ ?_ _ _ ⟨0, x4, rfl, fun t h0 h1 => by omega, rfl⟩
    · rintro Γ ⟨j, x4, er3, hc3, rfl⟩
      have hj : i ≤ j := by
        have := congrArg List.length er3
        simp [rngL] at this
        omega
      refine hK _ ⟨i + 1, _, _, er2, fun s t h0 h1 h2 => ?_, rfl⟩
      rcases Int.lt_or_le s (i : Int) with h3 | h3
      · exact hc s t h0 h1 h3
      · have e : s = i := by omega
        subst e
        exact hc3 t h0 (by omega)
    · rintro d2 r2 Γ K3 ⟨j, x4, er3, hc3, rfl⟩ hK3
      obtain ⟨hj, rfl, er4⟩ := rng_drop er3
      have nx := fun (z : crO r b o i j = false) => hK3 [some (.dat (.tup (r.map dotD))), some (.dat (.tup (b.map dotD))), some (.dat (.tup (o.map D.int))), some (.dat (.int i)), some (.dat (.int j))] ⟨j + 1, _, er4, fun t h0 h1 => by
        rcases Int.lt_or_le t (j : Int) with h3 | h3
        · exact hc3 t h0 h3
        · have e : t = j := by omega
          subst e
          exact z, rfl⟩
      have no := fun z => nev_no (r := r) (b := b) (o := o) (i := (i : Int)) (j := (j : Int)) (by omega) (by omega) (by omega) z
      obtain ⟨cn, cf⟩ := cross_data h ho (i := (i : Int)) (j := (j : Int)) (by omega) (by omega) (by omega)
      have oi := at_in ho (i := (i : Int)) (by omega) (by omega)
      have oj := at_in ho (i := (j : Int)) (by omega) (by omega)
      have o1 := (atI_ix (M := o) (i := (i : Int)) (by omega) (by omega)).1
      have o2 := (atI_ix (M := o) (i := (j : Int)) (by omega) (by omega)).1
      have ec : crO r b o i j = crB (atC r i) (atC b (atI o i)) (atC r j) (atC b (atI o j)) := rfl
      have m1 := at_ix (c := r) (i := (i : Int)) (by omega) (by omega)
      have m2 := at_ix (c := b) (i := atI o (i : Int)) oi.1 (by omega)
      have m3 := at_ix (c := r) (i := (j : Int)) (by omega) (by omega)
      have m4 := at_ix (c := b) (i := atI o (j : Int)) oj.1 (by omega)
      have d1 := dot_isDot (hr.box _ m1.2)
      have d2 := dot_isDot (hb.box _ m2.2)
      have d3 := dot_isDot (hr.box _ m3.2)
      have d4 := dot_isDot (hb.box _ m4.2)
      have y1 := m1.1
      have y2 := m2.1
      have y3 := m3.1
      have y4 := m4.1
      clear m1 m2 m3 m4 hK hK3 er er2 er3 er4 hc hc3 oi oj
      generalize crO r b o i j = cx at *
      generalize atC r (i : Int) = p1 at *
      generalize atC r (j : Int) = p3 at *
      generalize atI o (i : Int) = ai at *
      generalize atI o (j : Int) = aj at *
      generalize atC b ai = p2 at *
      generalize atC b aj = p4 at *
      obtain ⟨p10, p11⟩ := p1
      obtain ⟨p20, p21⟩ := p2
      obtain ⟨p30, p31⟩ := p3
      obtain ⟨p40, p41⟩ := p4
      repeat (first | (dsimp only [put, wipeG, List.set]) | (refine And.intro rfl ?_) | (refine And.intro True.intro ?_) | (refine And.intro ⟨rfl, rfl⟩ ?_) | (refine And.intro ⟨rfl, True.intro⟩ ?_) | (refine And.intro (by first | assumption | omega | exact .inr (.inl (fm_small _ (by decide) (by decide))) | (simp [put, wipeG]; done) | (simp [put, wipeG]; omega)) ?_) | (intro _))
      conv => whnf
      simp only [y1]
      repeat (first | (dsimp only [put, wipeG, List.set]) | (refine And.intro rfl ?_) | (refine And.intro True.intro ?_) | (refine And.intro ⟨rfl, rfl⟩ ?_) | (refine And.intro ⟨rfl, True.intro⟩ ?_) | (refine And.intro (by first | assumption | omega | exact .inr (.inl (fm_small _ (by decide) (by decide))) | (simp [put, wipeG]; done) | (simp [put, wipeG]; omega)) ?_) | (intro _))
      conv => whnf
      simp only [o1]
      repeat (first | (dsimp only [put, wipeG, List.set]) | (refine And.intro rfl ?_) | (refine And.intro True.intro ?_) | (refine And.intro ⟨rfl, rfl⟩ ?_) | (refine And.intro ⟨rfl, True.intro⟩ ?_) | (refine And.intro (by first | assumption | omega | exact .inr (.inl (fm_small _ (by decide) (by decide))) | (simp [put, wipeG]; done) | (simp [put, wipeG]; omega)) ?_) | (intro _))
      conv => whnf
      simp only [y2]
      repeat (first | (dsimp only [put, wipeG, List.set]) | (refine And.intro rfl ?_) | (refine And.intro True.intro ?_) | (refine And.intro ⟨rfl, rfl⟩ ?_) | (refine And.intro ⟨rfl, True.intro⟩ ?_) | (refine And.intro (by first | assumption | omega | exact .inr (.inl (fm_small _ (by decide) (by decide))) | (simp [put, wipeG]; done) | (simp [put, wipeG]; omega)) ?_) | (intro _))
      conv => whnf
      simp only [y3]
      repeat (first | (dsimp only [put, wipeG, List.set]) | (refine And.intro rfl ?_) | (refine And.intro True.intro ?_) | (refine And.intro ⟨rfl, rfl⟩ ?_) | (refine And.intro ⟨rfl, True.intro⟩ ?_) | (refine And.intro (by first | assumption | omega | exact .inr (.inl (fm_small _ (by decide) (by decide))) | (simp [put, wipeG]; done) | (simp [put, wipeG]; omega)) ?_) | (intro _))
      conv => whnf
      simp only [o2]
      repeat (first | (dsimp only [put, wipeG, List.set]) | (refine And.intro rfl ?_) | (refine And.intro True.intro ?_) | (refine And.intro ⟨rfl, rfl⟩ ?_) | (refine And.intro ⟨rfl, True.intro⟩ ?_) | (refine And.intro (by first | assumption | omega | exact .inr (.inl (fm_small _ (by decide) (by decide))) | (simp [put, wipeG]; done) | (simp [put, wipeG]; omega)) ?_) | (intro _))
      conv => whnf
      simp only [y4]
      repeat (first | (dsimp only [put, wipeG, List.set]) | (refine And.intro rfl ?_) | (refine And.intro True.intro ?_) | (refine And.intro ⟨rfl, rfl⟩ ?_) | (refine And.intro ⟨rfl, True.intro⟩ ?_) | (refine And.intro (by first | assumption | omega | exact .inr (.inl (fm_small _ (by decide) (by decide))) | (simp [put, wipeG]; done) | (simp [put, wipeG]; omega)) ?_) | (intro _))
      refine ⟨[_, _, _, _], rfl, (p10, p11), (p20, p21), (p30, p31), (p40, p41), rfl, ⟨d1, d2, d3, d4⟩, cn, cf, ?_⟩
      rw [← ec]
      cases cx with
      | false => exact nx rfl
      | true =>
        rw [no rfl] at q
        repeat (first | (dsimp only [put, wipeG, List.set]) | (refine And.intro rfl ?_) | (refine And.intro True.intro ?_) | (refine And.intro ⟨rfl, rfl⟩ ?_) | (refine And.intro ⟨rfl, True.intro⟩ ?_) | (refine And.intro (by first | assumption | omega | exact .inr (.inl (fm_small _ (by decide) (by decide))) | (simp [put, wipeG]; done) | (simp [put, wipeG]; omega)) ?_) | (intro _))
        exact q
theorem ok__law_are_pairs (E : Fx K mg) : FnG P w K mg base CX0 4 E.f__law_are_pairs E.d__law_are_pairs ["red", "blue", "row"] (spOf K 3 S__law_are_pairs) := fn_data E.F__law_are_pairs sc__law_are_pairs (wb := w__law_are_pairs) (fun c hK cdv A outer s H Ex hr hgd => by
  subst hK
  have hu1 := hu_of hr
  have hu0 := Nat.lt_of_succ_lt hu1
  have hr65 := unit65 hr
  have sc := sc__law_are_pairs
  exact psd_cons (psd_for PassesOwn.never rfl (pid_range1 E.z_range (pda_cons (pd_callB ok_len E.z_len (by decide +kernel) (pda_cons (pd_n 2) (pda_nil))) (pda_nil))) (pgd_n (i := 3) sc.nd) (psd_one (psd_for PassesOwn.never rfl (pid_range1 E.z_range (pda_cons (pd_n 3) (pda_nil))) (pgd_n (i := 4) sc.nd) (psd_one (psd_if (ptd_val (pd_call (ok__law_do_cross E) rfl (hr.mono (by decide)) hgd E.g__law_do_cross E.F__law_do_cross.kp E.b__law_do_cross (pda_cons (pd_sub hu1 (pd_n 0) (pd_n 3)) (pda_cons (pd_sub hu1 (pd_n 1) (pd_sub hu1 (pd_n 2) (pd_n 3))) (pda_cons (pd_sub hu1 (pd_n 0) (pd_n 4)) (pda_cons (pd_sub hu1 (pd_n 1) (pd_sub hu1 (pd_n 2) (pd_n 4))) (pda_nil))))))) (psd_one (psd_ret (pd_bl))) (psd_nil)))))) (psd_one (psd_ret (pd_bl)))) vc__law_are_pairs
end
end Kd
end Dl
namespace Dl
namespace Kd
open PySem PySem.Spec PyProof.Rows
open L2
section
variable {P : Program} {w : World} {K : PySem.W.Frag} {mg : Str → Option Value} {base : Heap}
/-! ### drawn free dots -/
def linedB (L : List (Int × Int)) (a c : Int × Int) : Bool := L.any fun p => decide (areaI p a c = 0)
def lnF (a c : Int × Int) : D → D
  | .tup [.int x, .int y] => .bl (decide (areaI (x, y) a c = 0))
  | d => d
def S__law_is_lined : Dl.Spec := datS fun ds k => ∃ L a c, ds = [.lst (L.map dotD), dotD a, dotD c] ∧ L.length ≤ 12 ∧ (∀ p ∈ L, isDot (dotD p) = true) ∧ isDot (dotD a) = true ∧ isDot (dotD c) = true ∧ k (.dat (.bl (linedB L a c)))
def w__law_is_lined : WS := wRet (wCB gAny (waC (wLc [3] (wiSeq (wN 0)) (stN 3) (wYes) (wBin gEqA (wCall 3 S__law_area (waC (wN 3) (waC (wN 1) (waC (wN 2) (waN))))) (wD (.int 0)))) (waN)))
theorem ln_map (a c : Int × Int) (L : List (Int × Int)) : (L.map dotD).map (lnF a c) = L.map fun p => D.bl (decide (areaI p a c = 0)) := by
  rw [List.map_map]
  rfl
theorem vc__law_is_lined : ∀ as rs Qd, ArRs as rs → rs.length = 3 → S__law_is_lined as Qd → w__law_is_lined (fin rs Qd) (gm0 4 rs) := vc_dat fun ds k hn hp => by
  obtain ⟨L, ⟨a0, a1⟩, ⟨c0, c1⟩, rfl, l12, hL, ha, hc, q⟩ := hp
  show w__law_is_lined (finD k) [some (.dat (.lst (L.map dotD))), some (.dat (.tup [.int a0, .int a1])), some (.dat (.tup [.int c0, .int c1])), none]
  have lt : (L.map dotD).length ≤ 1000000 := by rw [List.length_map]; omega
  refine lc_map (lnF (a0, a1) (c0, c1)) _ _ lt (by first | rfl | exact True.intro) (fun d hd K hK => ?_) ?_
  · obtain ⟨p, hp, rfl⟩ := List.mem_map.mp hd
    have dp := hL p hp
    obtain ⟨p0, p1⟩ := p
    have hK' : K (some (.bl (decide (areaI (p0, p1) (a0, a1) (c0, c1) = 0)))) _ := hK
    repeat (first | (dsimp only [put, wipeG, List.set]) | (refine And.intro rfl ?_) | (refine And.intro True.intro ?_) | (refine And.intro ⟨rfl, rfl⟩ ?_) | (refine And.intro ⟨rfl, True.intro⟩ ?_) | (refine And.intro (by first | assumption | omega | exact .inr (.inl (fm_small _ (by decide) (by decide))) | (simp [put, wipeG]; done) | (simp [put, wipeG]; omega)) ?_) | (intro _))
    refine ⟨[_, _, _], rfl, dp, ha, hc, ?_⟩
    repeat (first | (dsimp only [put, wipeG, List.set]) | (refine And.intro rfl ?_) | (refine And.intro True.intro ?_) | (refine And.intro ⟨rfl, rfl⟩ ?_) | (refine And.intro ⟨rfl, True.intro⟩ ?_) | (refine And.intro (by first | assumption | omega | exact .inr (.inl (fm_small _ (by decide) (by decide))) | (simp [put, wipeG]; done) | (simp [put, wipeG]; omega)) ?_) | (intro _))
    conv => whnf
    rw [ne_int]
    exact hK'
  · rw [ln_map]
    have e1 := bls_map (fun p : Int × Int => decide (areaI p (a0, a1) (c0, c1) = 0)) L
    have e2 : (L.map fun p => decide (areaI p (a0, a1) (c0, c1) = 0)).any id = linedB L (a0, a1) (c0, c1) := by
      unfold linedB
      rw [List.any_map]
      rfl
    repeat (first | (dsimp only [put, wipeG, List.set]) | (refine And.intro rfl ?_) | (refine And.intro True.intro ?_) | (refine And.intro ⟨rfl, rfl⟩ ?_) | (refine And.intro ⟨rfl, True.intro⟩ ?_) | (refine And.intro (by first | assumption | omega | exact .inr (.inl (fm_small _ (by decide) (by decide))) | (simp [put, wipeG]; done) | (simp [put, wipeG]; omega)) ?_) | (intro _))
    conv => whnf
    simp only [e1]
    conv => whnf
    rw [e2]
    exact q
theorem ok__law_is_lined (E : Fx K mg) : FnG P w K mg base CX0 2 E.f__law_is_lined E.d__law_is_lined ["some", "a", "c"] (spOf K 3 S__law_is_lined) := fn_data E.F__law_is_lined sc__law_is_lined (wb := w__law_is_lined) (fun c hK cdv A outer s H Ex hr hgd => by
  subst hK
  have hu1 := hu_of hr
  have hu0 := Nat.lt_of_succ_lt hu1
  have hr65 := unit65 hr
  have sc := sc__law_is_lined
  exact psd_one (psd_ret (pd_callB (ok_any rfl) E.z_any (by decide +kernel) (pda_cons (pd_lc (own := [("b", 3)]) (tgs := [3]) rfl sc.nd (pid_seq (pd_n 0)) (by (show blkC ["some", "a", "c", "b"] (defScope s__law_is_lined) _ _ = true); decide +kernel) (by decide) (fun _ _ _ _ _ => pgd_n (i := 3) sc.nd) (fun _ _ _ _ _ => ptsd_nil) (fun _ _ _ _ _ => pd_cmp (ok_eqA hr.units) (pd_call (ok__law_area E) rfl (hr.mono (by decide)) hgd E.g__law_area E.F__law_area.kp E.b__law_area (pda_cons (pd_n 3) (pda_cons (pd_n 1) (pda_cons (pd_n 2) (pda_nil))))) (pd_int))) (pda_nil))))) vc__law_is_lined
end
end Kd
end Dl
namespace Dl
namespace Kd
open PySem PySem.Spec PyProof.Rows
open L2
section
variable {P : Program} {w : World} {K : PySem.W.Frag} {mg : Str → Option Value} {base : Heap}
def Free3 (l : List (Int × Int)) : Prop := ∀ i j k : Int, 0 ≤ i → i < j → j < k → k < l.length → areaI (atC l i) (atC l j) (atC l k) ≠ 0
theorem at_snoc1 {l : List (Int × Int)} {p : Int × Int} {i : Int} (h0 : 0 ≤ i) (h : i < l.length) : atC (l ++ [p]) i = atC l i := by
  unfold atC
  rw [List.getElem?_append_left (by omega)]
theorem at_snoc2 {l : List (Int × Int)} {p : Int × Int} : atC (l ++ [p]) (l.length : Int) = p := by
  unfold atC
  rw [Int.toNat_natCast, List.getElem?_append_right (Nat.le_refl _), Nat.sub_self]
  rfl
theorem free3_add {l : List (Int × Int)} {p : Int × Int} (h : Free3 l) (hp : ∀ j : Nat, j < l.length → linedB (l.take j) (atC l j) p = false) : Free3 (l ++ [p]) := fun i j k h0 h1 h2 h3 => by
  rw [List.length_append, List.length_singleton] at h3
  rw [at_snoc1 (p := p) h0 (by omega), at_snoc1 (p := p) (i := j) (by omega) (by omega)]
  rcases Int.lt_or_le k (l.length : Int) with h4 | h4
  · rw [at_snoc1 (p := p) (i := k) (by omega) h4]
    exact h i j k h0 h1 h2 h4
  · have e : k = (l.length : Int) := by omega
    rw [e, at_snoc2]
    have z := hp j.toNat (by omega)
    rw [show ((j.toNat : Nat) : Int) = j by omega] at z
    unfold linedB at z
    rw [List.any_eq_false] at z
    have mi : atC l i ∈ l.take j.toNat := by
      have e1 : atC l i = atC (l.take j.toNat) ((i.toNat : Nat) : Int) := by
        rw [at_take (by omega)]
        congr 1
        omega
      rw [e1]
      exact (at_ix (c := l.take j.toNat) (by omega) (by rw [List.length_take]; omega)).2
    have := z _ mi
    simpa using this
end
end Kd
end Dl
namespace Dl
namespace Kd
open PySem PySem.Spec PyProof.Rows
open L2
section
variable {P : Program} {w : World} {K : PySem.W.Frag} {mg : Str → Option Value} {base : Heap}
/-! ### free dots drawn -/
theorem eq_dot (p q : Int × Int) : eqD (dotD p) (dotD q) = decide (p = q) := by
  obtain ⟨a, b⟩ := p
  obtain ⟨c, d⟩ := q
  show PyData.eqv (.tuple [.int a, .int b]) (.tuple [.int c, .int d]) = _
  rw [PyData.eqv, PyData.eqvAll, PyData.eqvAll, PyData.eqvAll, PyData.eqv, PyData.eqv, Bool.and_true]
  by_cases h1 : a = c <;> by_cases h2 : b = d <;> simp [h1, h2]
theorem any_dot (l : List (Int × Int)) (p : Int × Int) : ((l.map dotD).any fun x => eqD x (dotD p)) = decide (p ∈ l) := by
  rw [List.any_map]
  induction l with
  | nil => rfl
  | cons q l ih =>
    rw [List.any_cons, ih]
    show (eqD (dotD q) (dotD p) || decide (p ∈ l)) = decide (p ∈ q :: l)
    rw [eq_dot]
    by_cases h : q = p
    · simp [h]
    · simp [h, Ne.symm h]
theorem sh_dots (l : List (Int × Int)) : sh (.lst (l.map dotD)) 60 = true := by
  have key : shs (l.map dotD) 59 = true := by
    induction l with
    | nil => rfl
    | cons x l ih =>
      rw [List.map_cons, shs, ih]
      rfl
  show (decide (0 < 60) && shs (l.map dotD) 59) = true
  rw [key]
  rfl
structure GenOk (n : Nat) (l : List (Int × Int)) : Prop where
  nd : l.Nodup
  box : ∀ p ∈ l, -9000 ≤ p.1 ∧ p.1 ≤ 9000 ∧ -9000 ≤ p.2 ∧ p.2 ≤ 9000
  few : l.length ≤ n
theorem GenOk.add {n : Nat} {l : List (Int × Int)} {p : Int × Int} (h : GenOk n l) (hp : -9000 ≤ p.1 ∧ p.1 ≤ 9000 ∧ -9000 ≤ p.2 ∧ p.2 ≤ 9000) (hn : p ∉ l) (hl : l.length < n) : GenOk n (l ++ [p]) := by
  refine ⟨?_, fun q hq => ?_, by rw [List.length_append, List.length_singleton]; omega⟩
  · rw [List.nodup_append]
    exact ⟨h.nd, by simp, fun a ha b hb e => by rw [List.mem_singleton.mp hb] at e; exact hn (e ▸ ha)⟩
  · rcases List.mem_append.mp hq with hq | hq
    · exact h.box q hq
    · rw [List.mem_singleton.mp hq]
      exact hp
def parF : D → D
  | .int x => dotD (x, x * x)
  | d => d
theorem par_dots (n : Nat) : (rngL 0 n).map parF = ((idL n).map fun x => (x, x * x)).map dotD := by
  rw [idL_is, List.map_map, List.map_map]
  rfl
theorem par_area (a b c : Int) : areaI (a, a * a) (b, b * b) (c, c * c) = (b - a) * ((c - a) * (c - b)) := by
  unfold areaI
  grind
theorem par_free {n : Nat} {c : List (Int × Int)} (h3 : 3 ≤ n) (h8 : n ≤ 10) (h : c.Perm ((idL n).map fun x => (x, x * x))) : FreeOk c := by
  have hl := h.length_eq
  rw [List.length_map, idL_len] at hl
  have form : ∀ p ∈ c, ∃ x : Int, p = (x, x * x) ∧ 0 ≤ x ∧ x < n := fun p hp => by
    obtain ⟨x, hx, rfl⟩ := List.mem_map.mp (h.mem_iff.mp hp)
    exact ⟨x, rfl, idL_in hx⟩
  have nd : c.Nodup := h.nodup_iff.mpr (List.pairwise_map.mpr ((idL_nd n).imp fun hne e => hne (Prod.mk.inj e).1))
  refine ⟨⟨by omega, by omega, fun p hp => ?_, nd⟩, fun i j k h0 h1 h2 h3 z => ?_⟩
  · obtain ⟨x, rfl, x0, x1⟩ := form p hp
    have : x * x ≤ 100 := by
      have : x * x ≤ 10 * 10 := Int.mul_le_mul (by omega) (by omega) x0 (by decide)
      omega
    have := Int.mul_nonneg x0 x0
    simp only
    omega
  · have mi := (at_ix (c := c) (i := i) h0 (by omega)).2
    have mj := (at_ix (c := c) (i := j) (by omega) (by omega)).2
    have mk := (at_ix (c := c) (i := k) (by omega) h3).2
    obtain ⟨x, ex, _⟩ := form _ mi
    obtain ⟨y, ey, _⟩ := form _ mj
    obtain ⟨w, ew, _⟩ := form _ mk
    have ne : ∀ s t : Int, 0 ≤ s → s < t → t < c.length → atC c s ≠ atC c t := fun s t s0 st tn e => by
      have s2 : s.toNat < c.length := by omega
      have t2 : t.toNat < c.length := by omega
      unfold atC at e
      rw [List.getElem?_eq_getElem s2, List.getElem?_eq_getElem t2] at e
      have := (List.getElem_inj nd).mp (by simpa using e)
      omega
    have n1 := ne i j h0 h1 (by omega)
    have n2 := ne i k h0 (by omega) h3
    have n3 := ne j k (by omega) h2 h3
    rw [ex, ey] at n1
    rw [ex, ew] at n2
    rw [ey, ew] at n3
    rw [ex, ey, ew, par_area] at z
    rcases Int.mul_eq_zero.mp z with z | z
    · exact n1 (by rw [show x = y by omega])
    · rcases Int.mul_eq_zero.mp z with z | z
      · exact n2 (by rw [show x = w by omega])
      · exact n3 (by rw [show y = w by omega])
theorem perm_dotsL {ys : List D} {l : List (Int × Int)} (h : ys.Perm (l.map dotD)) : ∃ m : List (Int × Int), ys = m.map dotD ∧ m.Perm l := by
  refine ⟨ys.map unD, ?_, ?_⟩
  · rw [List.map_map]
    refine ((List.map_congr_left fun d hd => ?_).trans (List.map_id _)).symm
    obtain ⟨p, _, rfl⟩ := List.mem_map.mp (h.mem_iff.mp hd)
    rfl
  · have := h.map unD
    rwa [unD_map] at this
def nlF (l : List (Int × Int)) (p : Int × Int) : D → D
  | .int j => .bl (linedB (l.take j.toNat) (atC l j) p)
  | d => d
def S__law_free_dots : Dl.Spec := hanS fun h ds k => ∃ n : Nat, ds = [.int (n : Nat)] ∧ HandOk h ∧ 6 ≤ n ∧ n ≤ 10 ∧ ∀ c h', FreeOk c → c.length = n → (∀ p ∈ c, -9000 ≤ p.1 ∧ p.1 ≤ 9000 ∧ -9000 ≤ p.2 ∧ p.2 ≤ 9000) → HandOk h' → k (.lst (c.map dotD)) h'
theorem mono__law_free_dots : Mono S__law_free_dots := mono_han fun l ds k k' hk hp => by
  obtain ⟨n, e, a, b, d, q⟩ := hp
  exact ⟨n, e, a, b, d, fun c h' x y z w => hk _ _ (q c h' x y z w)⟩
def w__law_free_dots : WS := wSeq (wParC 2 3 (wCallL 2 S__law_any (waC (wN 0) (waC (wLst (waC (wD (.int 6)) (waC (wD (.int 15)) (waC (wD (.int 60)) (waC (wD (.int 9000)) (waN)))))) (waN)))) (wLst (waN))) (wSeq (wFor (wiR1 (waC (wBin gMul (wD (.int 6)) (wN 1)) (waN))) (stN 4) (wSeq (wAsg (wCallL 2 S__law_drawn (waC (wN 0) (waC (wN 2) (waN)))) (stN 5)) (wIfS (wAndT (wTv (wBin gLt (wCB gLen (waC (wN 3) (waN))) (wN 1))) (wTv (wBin gNin (wN 5) (wN 3)))) (wIfS (wNotT (wTv (wCB gAny (waC (wLc [6] (wiR1 (waC (wCB gLen (waC (wN 3) (waN))) (waN))) (stN 6) (wYes) (wCall 3 S__law_is_lined (waC (wSl (wN 3) (woN) (woS (wN 6))) (waC (wBin gAt (wN 3) (wN 6)) (waC (wN 5) (waN)))))) (waN))))) (wDrop (wMut mAppend 3 (waC (wN 5) (waN)))) (wNil)) (wNil)))) (wRet (wIf (wTv (wBin gEqA (wCB gLen (waC (wN 3) (waN))) (wN 1))) (wN 3) (wCallL 2 S__law_mixed (waC (wN 0) (waC (wLc [7] (wiR1 (waC (wN 1) (waN))) (stN 7) (wYes) (wTup (waC (wN 7) (waC (wBin gMul (wN 7) (wN 7)) (waN))))) (waN)))))))
theorem vc__law_free_dots : ∀ as rs Qd, ArRs as rs → rs.length = 2 → S__law_free_dots as Qd → w__law_free_dots (fin rs Qd) (gm0 8 rs) := vc_han fun ha h ds k hn hp => by
  obtain ⟨n, rfl, hh, n6, n10, q⟩ := hp
  show w__law_free_dots (finH ha k) [some (.lst true ha h), some (.dat (.int (n : Nat))), none, none, none, none, none, none]
  repeat (first | (dsimp only [put, wipeG, List.set]) | (refine And.intro rfl ?_) | (refine And.intro True.intro ?_) | (refine And.intro ⟨rfl, rfl⟩ ?_) | (refine And.intro ⟨rfl, True.intro⟩ ?_) | (refine And.intro (by first | assumption | omega | exact .inr (.inl (fm_small _ (by decide) (by decide))) | (simp [put, wipeG]; done) | (simp [put, wipeG]; omega)) ?_) | (intro _))
  refine ⟨h, [_], rfl, hh, by simp, by simp, fun w hw h1 hh1 => ?_⟩
  have hw : ∃ v : Int, w = .int v ∧ 0 ≤ v ∧ v ≤ 9000 := by
    simp only [List.mem_cons, List.not_mem_nil, or_false] at hw
    rcases hw with rfl | rfl | rfl | rfl <;> exact ⟨_, rfl, by decide, by decide⟩
  obtain ⟨v, rfl, v0, v9⟩ := hw
  repeat (first | (dsimp only [put, wipeG, List.set]) | (refine And.intro rfl ?_) | (refine And.intro True.intro ?_) | (refine And.intro ⟨rfl, rfl⟩ ?_) | (refine And.intro ⟨rfl, True.intro⟩ ?_) | (refine And.intro (by first | assumption | omega | exact .inr (.inl (fm_small _ (by decide) (by decide))) | (simp [put, wipeG]; done) | (simp [put, wipeG]; omega)) ?_) | (intro _))
  rename_i af
  refine loop_rule (fun _ Γ => ∃ (h : List D) (l : List (Int × Int)) (x4 x5 : Option R), HandOk h ∧ GenOk n l ∧ Free3 l ∧ Γ = [some (.lst true ha h), some (.dat (.int (n : Nat))), some (.dat (.int v)), some (.lst false af (l.map dotD)), x4, x5, none, none]) (fun _ _ _ => True.intro) ?_ ?_ _ _ ⟨h1, [], none, none, hh1, ⟨by simp, by simp, by simp⟩, fun i j k h0 h1 h2 h3 => by simp at h3; omega, rfl⟩
  · rintro Γ ⟨h, l, x4, x5, hh, hg, hf, rfl⟩
    have ll : ((l.map dotD).length : Int) = (l.length : Int) := by rw [List.length_map]
    repeat (first | (dsimp only [put, wipeG, List.set]) | (refine And.intro rfl ?_) | (refine And.intro True.intro ?_) | (refine And.intro ⟨rfl, rfl⟩ ?_) | (refine And.intro ⟨rfl, True.intro⟩ ?_) | (refine And.intro (by first | assumption | omega | exact .inr (.inl (fm_small _ (by decide) (by decide))) | (simp [put, wipeG]; done) | (simp [put, wipeG]; omega)) ?_) | (intro _))
    conv => whnf
    rw [ne_int, ll]
    by_cases e : (l.length : Int) = n
    · have q2 := q l h ⟨⟨by omega, by omega, fun p hp => by have := hg.box p hp; omega, hg.nd⟩, hf⟩ (by omega) hg.box hh
      rw [decide_eq_true e]
      repeat (first | (dsimp only [put, wipeG, List.set]) | (refine And.intro rfl ?_) | (refine And.intro True.intro ?_) | (refine And.intro ⟨rfl, rfl⟩ ?_) | (refine And.intro ⟨rfl, True.intro⟩ ?_) | (refine And.intro (by first | assumption | omega | exact .inr (.inl (fm_small _ (by decide) (by decide))) | (simp [put, wipeG]; done) | (simp [put, wipeG]; omega)) ?_) | (intro _))
      exact q2
    · rw [decide_eq_false e]
      repeat (first | (dsimp only [put, wipeG, List.set]) | (refine And.intro rfl ?_) | (refine And.intro True.intro ?_) | (refine And.intro ⟨rfl, rfl⟩ ?_) | (refine And.intro ⟨rfl, True.intro⟩ ?_) | (refine And.intro (by first | assumption | omega | exact .inr (.inl (fm_small _ (by decide) (by decide))) | (simp [put, wipeG]; done) | (simp [put, wipeG]; omega)) ?_) | (intro _))
      refine lc_map parF _ _ (by simp [rngL]; omega) (by first | rfl | exact True.intro) (fun d hd K3 hK3 => ?_) ?_
      · obtain ⟨i, hi, rfl⟩ := List.mem_map.mp hd
        have hi := List.mem_range.mp hi
        have hK' : K3 (some (dotD (0 + (i : Int), (0 + (i : Int)) * (0 + (i : Int))))) _ := hK3
        have xb : (0 + (i : Int)).natAbs < 9223372036854775808 := by omega
        generalize (0 + (i : Int)) = x at *
        repeat (first | (dsimp only [put, wipeG, List.set]) | (refine And.intro rfl ?_) | (refine And.intro True.intro ?_) | (refine And.intro ⟨rfl, rfl⟩ ?_) | (refine And.intro ⟨rfl, True.intro⟩ ?_) | (refine And.intro (by first | assumption | omega | exact .inr (.inl (fm_small _ (by decide) (by decide))) | (simp [put, wipeG]; done) | (simp [put, wipeG]; omega)) ?_) | (intro _))
        exact hK'
      · rw [show Int.toNat (n : Int) = n from Int.toNat_natCast n, par_dots]
        repeat (first | (dsimp only [put, wipeG, List.set]) | (refine And.intro rfl ?_) | (refine And.intro True.intro ?_) | (refine And.intro ⟨rfl, rfl⟩ ?_) | (refine And.intro ⟨rfl, True.intro⟩ ?_) | (refine And.intro (by first | assumption | omega | exact .inr (.inl (fm_small _ (by decide) (by decide))) | (simp [put, wipeG]; done) | (simp [put, wipeG]; omega)) ?_) | (intro _))
        refine ⟨h, [_], rfl, hh, by simp [idL_len]; omega, fun ys h2 hy hh2 => ?_⟩
        obtain ⟨c1, rfl, hp⟩ := perm_dotsL hy
        have f1 := par_free (by omega) n10 hp
        have hl1 := hp.length_eq
        rw [List.length_map, idL_len] at hl1
        have q2 := q c1 h2 f1 hl1 (fun p hp2 => by
          obtain ⟨x, hx, rfl⟩ := List.mem_map.mp (hp.mem_iff.mp hp2)
          obtain ⟨x0, x1⟩ := idL_in hx
          have : x * x ≤ 10 * 10 := Int.mul_le_mul (by omega) (by omega) x0 (by decide)
          have := Int.mul_nonneg x0 x0
          simp only
          omega) hh2
        repeat (first | (dsimp only [put, wipeG, List.set]) | (refine And.intro rfl ?_) | (refine And.intro True.intro ?_) | (refine And.intro ⟨rfl, rfl⟩ ?_) | (refine And.intro ⟨rfl, True.intro⟩ ?_) | (refine And.intro (by first | assumption | omega | exact .inr (.inl (fm_small _ (by decide) (by decide))) | (simp [put, wipeG]; done) | (simp [put, wipeG]; omega)) ?_) | (intro _))
        exact q2
  · rintro d r' Γ K ⟨h, l, x4, x5, hh, hg, hf, rfl⟩ hK
    have ll : ((l.map dotD).length : Int) = (l.length : Int) := by rw [List.length_map]
    have lf := hg.few
    repeat (first | (dsimp only [put, wipeG, List.set]) | (refine And.intro rfl ?_) | (refine And.intro True.intro ?_) | (refine And.intro ⟨rfl, rfl⟩ ?_) | (refine And.intro ⟨rfl, True.intro⟩ ?_) | (refine And.intro (by first | assumption | omega | exact .inr (.inl (fm_small _ (by decide) (by decide))) | (simp [put, wipeG]; done) | (simp [put, wipeG]; omega)) ?_) | (intro _))
    refine ⟨h, [_], rfl, hh, v0, by omega, fun x y h3 x0 x1 y0 y1 hh3 => ?_⟩
    have ad := any_dot l (x, y)
    have sd := sh_dots l
    have nx := hK [some (.lst true ha h3), some (.dat (.int (n : Nat))), some (.dat (.int v)), some (.lst false af (l.map dotD)), some (.dat d), some (.dat (.tup [.int x, .int y])), none, none] ⟨h3, l, _, _, hh3, hg, hf, rfl⟩
    repeat (first | (dsimp only [put, wipeG, List.set]) | (refine And.intro rfl ?_) | (refine And.intro True.intro ?_) | (refine And.intro ⟨rfl, rfl⟩ ?_) | (refine And.intro ⟨rfl, True.intro⟩ ?_) | (refine And.intro (by first | assumption | omega | exact .inr (.inl (fm_small _ (by decide) (by decide))) | (simp [put, wipeG]; done) | (simp [put, wipeG]; omega)) ?_) | (intro _))
    conv => whnf
    rw [ll]
    by_cases h3' : (l.length : Int) < n
    · rw [decide_eq_true h3']
      repeat (first | (dsimp only [put, wipeG, List.set]) | (refine And.intro rfl ?_) | (refine And.intro True.intro ?_) | (refine And.intro ⟨rfl, rfl⟩ ?_) | (refine And.intro ⟨rfl, True.intro⟩ ?_) | (refine And.intro (by first | assumption | omega | exact .inr (.inl (fm_small _ (by decide) (by decide))) | (simp [put, wipeG]; done) | (simp [put, wipeG]; omega)) ?_) | (intro _))
      conv => whnf
      rw [show ((l.map dotD).any fun z => eqD z (.tup [.int x, .int y])) = decide ((x, y) ∈ l) from ad]
      by_cases hm : (x, y) ∈ l
      · rw [decide_eq_true hm]
        exact nx
      · rw [decide_eq_false hm]
        repeat (first | (dsimp only [put, wipeG, List.set]) | (refine And.intro rfl ?_) | (refine And.intro True.intro ?_) | (refine And.intro ⟨rfl, rfl⟩ ?_) | (refine And.intro ⟨rfl, True.intro⟩ ?_) | (refine And.intro (by first | assumption | omega | exact .inr (.inl (fm_small _ (by decide) (by decide))) | (simp [put, wipeG]; done) | (simp [put, wipeG]; omega)) ?_) | (intro _))
        rw [show (((l.map dotD).length : Nat) : Int).toNat = l.length by rw [Int.toNat_natCast, List.length_map]]
        refine lc_map (nlF l (x, y)) _ _ (by simp [rngL]; omega) (by first | rfl | exact True.intro) (fun d hd K3 hK3 => ?_) ?_
        · obtain ⟨j, hj, rfl⟩ := List.mem_map.mp hd
          have hj := List.mem_range.mp hj
          rw [Int.zero_add] at hK3 ⊢
          have hK' : K3 (some (.bl (linedB (l.take j) (atC l (j : Int)) (x, y)))) _ := hK3
          have mj := at_ix (c := l) (i := (j : Int)) (by omega) (by omega)
          have xj := mj.1
          have cj := cut_dots l j
          have dj := dot_isDot (p := atC l (j : Int)) (by have := hg.box _ mj.2; omega)
          have dxy := dot_isDot (p := (x, y)) (by simp only; omega)
          have dl : ∀ p ∈ l.take j, isDot (dotD p) = true := fun p hp => dot_isDot (by have := hg.box p (List.mem_of_mem_take hp); omega)
          have tl : (l.take j).length ≤ 12 := by rw [List.length_take]; omega
          clear hK3 mj
          generalize atC l (j : Int) = pj at *
          repeat (first | (dsimp only [put, wipeG, List.set]) | (refine And.intro rfl ?_) | (refine And.intro True.intro ?_) | (refine And.intro ⟨rfl, rfl⟩ ?_) | (refine And.intro ⟨rfl, True.intro⟩ ?_) | (refine And.intro (by first | assumption | omega | exact .inr (.inl (fm_small _ (by decide) (by decide))) | (simp [put, wipeG]; done) | (simp [put, wipeG]; omega)) ?_) | (intro _))
          conv => whnf
          simp only [xj]
          repeat (first | (dsimp only [put, wipeG, List.set]) | (refine And.intro rfl ?_) | (refine And.intro True.intro ?_) | (refine And.intro ⟨rfl, rfl⟩ ?_) | (refine And.intro ⟨rfl, True.intro⟩ ?_) | (refine And.intro (by first | assumption | omega | exact .inr (.inl (fm_small _ (by decide) (by decide))) | (simp [put, wipeG]; done) | (simp [put, wipeG]; omega)) ?_) | (intro _))
          refine ⟨[_, _, _], rfl, l.take j, pj, (x, y), by rw [cj]; rfl, tl, dl, dj, dxy, ?_⟩
          repeat (first | (dsimp only [put, wipeG, List.set]) | (refine And.intro rfl ?_) | (refine And.intro True.intro ?_) | (refine And.intro ⟨rfl, rfl⟩ ?_) | (refine And.intro ⟨rfl, True.intro⟩ ?_) | (refine And.intro (by first | assumption | omega | exact .inr (.inl (fm_small _ (by decide) (by decide))) | (simp [put, wipeG]; done) | (simp [put, wipeG]; omega)) ?_) | (intro _))
          exact hK'
        · have em : (rngL 0 l.length).map (nlF l (x, y)) = (List.range l.length).map fun j => D.bl (linedB (l.take j) (atC l (j : Int)) (x, y)) := by
            unfold rngL
            rw [List.map_map]
            refine List.map_congr_left fun j _ => ?_
            show nlF l (x, y) (.int (0 + (j : Int))) = _
            rw [Int.zero_add]
            rfl
          rw [em]
          have e1 := bls_map (fun j : Nat => linedB (l.take j) (atC l (j : Int)) (x, y)) (List.range l.length)
          repeat (first | (dsimp only [put, wipeG, List.set]) | (refine And.intro rfl ?_) | (refine And.intro True.intro ?_) | (refine And.intro ⟨rfl, rfl⟩ ?_) | (refine And.intro ⟨rfl, True.intro⟩ ?_) | (refine And.intro (by first | assumption | omega | exact .inr (.inl (fm_small _ (by decide) (by decide))) | (simp [put, wipeG]; done) | (simp [put, wipeG]; omega)) ?_) | (intro _))
          conv => whnf
          simp only [e1]
          conv => whnf
          cases hB : ((List.range l.length).map fun j => linedB (l.take j) (atC l (j : Int)) (x, y)).any id with
          | true => exact nx
          | false =>
            have al : ∀ j : Nat, j < l.length → linedB (l.take j) (atC l (j : Int)) (x, y) = false := fun j hj => by
              have := List.any_eq_false.mp hB _ (List.mem_map.mpr ⟨j, List.mem_range.mpr hj, rfl⟩)
              simpa using this
            have nx2 := hK [some (.lst true ha h3), some (.dat (.int (n : Nat))), some (.dat (.int v)), some (.lst false af ((l ++ [(x, y)]).map dotD)), some (.dat d), some (.dat (.tup [.int x, .int y])), none, none] ⟨h3, _, _, _, hh3, hg.add (p := (x, y)) (by simp only; omega) hm (by omega), free3_add hf al, rfl⟩
            rw [List.map_append] at nx2
            have lb : (l.map dotD).length < 1000000 := by rw [List.length_map]; omega
            generalize l.map dotD = M at nx2 lb ⊢
            repeat (first | (dsimp only [put, wipeG, List.set]) | (refine And.intro rfl ?_) | (refine And.intro True.intro ?_) | (refine And.intro ⟨rfl, rfl⟩ ?_) | (refine And.intro ⟨rfl, True.intro⟩ ?_) | (refine And.intro (by first | assumption | omega | exact .inr (.inl (fm_small _ (by decide) (by decide))) | (simp [put, wipeG]; done) | (simp [put, wipeG]; omega)) ?_) | (intro _))
            exact nx2
    · rw [decide_eq_false h3']
      exact nx
theorem ok__law_free_dots (E : Fx K mg) : FnG P w K mg base CX0 3 E.f__law_free_dots E.d__law_free_dots ["hand", "many"] (spOf K 2 S__law_free_dots) := fn_data E.F__law_free_dots sc__law_free_dots (wb := w__law_free_dots) (fun c hK cdv A outer s H Ex hr hgd => by
  subst hK
  have hu1 := hu_of hr
  have hu0 := Nat.lt_of_succ_lt hu1
  have hr65 := unit65 hr
  have sc := sc__law_free_dots
  exact psd_cons (psd_parC (i := 2) (j := 3) rfl sc.nd (pd_callL (ok__law_any E) rfl mono__law_any (hr.mono (by decide)) hgd E.g__law_any E.F__law_any.kp E.b__law_any (pda_cons (pd_n 0) (pda_cons (pd_lst (pda_cons (pd_int) (pda_cons (pd_int) (pda_cons (pd_int) (pda_cons (pd_int) (pda_nil)))))) (pda_nil)))) (pd_lst (pda_nil))) (psd_cons (psd_for PassesOwn.never rfl (pid_range1 E.z_range (pda_cons (pd_bin ok_mul (pd_int) (pd_n 1)) (pda_nil))) (pgd_n (i := 4) sc.nd) (psd_cons (psd_set (i := 5) sc.nd (pd_callL (ok__law_drawn E) rfl mono__law_drawn (hr.mono (by decide)) hgd E.g__law_drawn E.F__law_drawn.kp E.b__law_drawn (pda_cons (pd_n 0) (pda_cons (pd_n 2) (pda_nil))))) (psd_one (psd_if (L2.PW.pt (pwd_and (ptd_cmp ok_lt (pd_callB ok_len E.z_len (by decide +kernel) (pda_cons (pd_n 3) (pda_nil))) (pd_n 1)) (pwd_and1 (ptd_cmp (ok_nin hr65) (pd_n 5) (pd_n 3))))) (psd_one (psd_if (ptd_not (ptd_val (pd_callB (ok_any rfl) E.z_any (by decide +kernel) (pda_cons (pd_lc (own := [("at", 6)]) (tgs := [6]) rfl sc.nd (pid_range1 E.z_range (pda_cons (pd_callB ok_len E.z_len (by decide +kernel) (pda_cons (pd_n 3) (pda_nil))) (pda_nil))) (by (show blkC ["hand", "many", "wide", "found", "lap", "dot", "at", "x"] (defScope s__law_free_dots) _ _ = true); decide +kernel) (by decide) (fun _ _ _ _ _ => pgd_n (i := 6) sc.nd) (fun _ _ _ _ _ => ptsd_nil) (fun _ _ _ _ _ => pd_call (ok__law_is_lined E) rfl (hr.mono (by decide)) hgd E.g__law_is_lined E.F__law_is_lined.kp E.b__law_is_lined (pda_cons (pd_slice (pd_n 3) (pod_none) (pod_some (pd_n 6))) (pda_cons (pd_sub hu1 (pd_n 3) (pd_n 6)) (pda_cons (pd_n 5) (pda_nil)))))) (pda_nil))))) (psd_one (psd_expr ((pd_mt (i := 3) ok_append PySem.F.plainAttrs_list PySem.F.slot_list_append PySem.F.type_list_append rfl (by first | exact Or.inl rfl | exact Or.inr (Or.inl rfl) | exact Or.inr (Or.inr rfl)) (pda_cons (pd_n 5) (pda_nil)))))) (psd_nil))) (psd_nil))))) (psd_one (psd_ret (pd_if (ptd_cmp (ok_eqA hr.units) (pd_callB ok_len E.z_len (by decide +kernel) (pda_cons (pd_n 3) (pda_nil))) (pd_n 1)) (pd_n 3) (pd_callL (ok__law_mixed E) rfl mono__law_mixed (hr.mono (by decide)) hgd E.g__law_mixed E.F__law_mixed.kp E.b__law_mixed (pda_cons (pd_n 0) (pda_cons (pd_lc (own := [("x", 7)]) (tgs := [7]) rfl sc.nd (pid_range1 E.z_range (pda_cons (pd_n 1) (pda_nil))) (by (show blkC ["hand", "many", "wide", "found", "lap", "dot", "at", "x"] (defScope s__law_free_dots) _ _ = true); decide +kernel) (by decide) (fun _ _ _ _ _ => pgd_n (i := 7) sc.nd) (fun _ _ _ _ _ => ptsd_nil) (fun _ _ _ _ _ => pd_tup (pda_cons (pd_n 7) (pda_cons (pd_bin ok_mul (pd_n 7) (pd_n 7)) (pda_nil))))) (pda_nil))))))))) vc__law_free_dots
end
end Kd
end Dl
namespace Dl
namespace Kd
open PySem PySem.Spec PyProof.Rows
open L2
section
variable {P : Program} {w : World} {K : PySem.W.Frag} {mg : Str → Option Value} {base : Heap}
/-! ### two crowds drawn -/
def sizesD : D := .lst [.tup [.int 3, .int 3], .tup [.int 4, .int 4], .tup [.int 5, .int 5]]
def S__law_two : Dl.Spec := hanS fun h ds k => ds = [sizesD] ∧ HandOk h ∧ ∀ r b n h', TwoOk r b n → (∀ p ∈ r ++ b, -9000 ≤ p.1 ∧ p.1 ≤ 9000 ∧ -9000 ≤ p.2 ∧ p.2 ≤ 9000) → HandOk h' → k (.dat (.tup [crowdD r, crowdD b])) h'
theorem mono__law_two : Mono S__law_two := mono_han fun l ds k k' hk hp => by
  obtain ⟨e, a, q⟩ := hp
  exact ⟨e, a, fun r b n h' x y z => hk _ _ (q r b n h' x y z)⟩
def w__law_two : WS := wSeq (wAsg (wCallL 2 S__law_any (waC (wN 0) (waC (wN 1) (waN)))) (stTup 2 (stCons (stN 2) (stCons (stN 3) (stNil))))) (wSeq (wAsg (wCallL 2 S__law_free_dots (waC (wN 0) (waC (wBin gAdd (wN 2) (wN 3)) (waN)))) (stN 4)) (wRet (wTup (waC (wCB gTuple (waC (wSl (wN 4) (woN) (woS (wN 2))) (waN))) (waC (wCB gTuple (waC (wSl (wN 4) (woS (wN 2)) (woN)) (waN))) (waN))))))
theorem vc__law_two : ∀ as rs Qd, ArRs as rs → rs.length = 2 → S__law_two as Qd → w__law_two (fin rs Qd) (gm0 5 rs) := vc_han fun ha h ds k hn hp => by
  obtain ⟨rfl, hh, q⟩ := hp
  show w__law_two (finH ha k) [some (.lst true ha h), some (.dat (.lst [.tup [.int 3, .int 3], .tup [.int 4, .int 4], .tup [.int 5, .int 5]])), none, none, none]
  repeat (first | (dsimp only [put, wipeG, List.set]) | (refine And.intro rfl ?_) | (refine And.intro True.intro ?_) | (refine And.intro ⟨rfl, rfl⟩ ?_) | (refine And.intro ⟨rfl, True.intro⟩ ?_) | (refine And.intro (by first | assumption | omega | exact .inr (.inl (fm_small _ (by decide) (by decide))) | (simp [put, wipeG]; done) | (simp [put, wipeG]; omega)) ?_) | (intro _))
  refine ⟨h, [_], rfl, hh, by simp, by simp, fun x hx h1 hh1 => ?_⟩
  have hx' : ∃ n : Nat, x = .tup [.int n, .int n] ∧ 3 ≤ n ∧ n ≤ 5 := by
    simp only [List.mem_cons, List.not_mem_nil, or_false] at hx
    rcases hx with rfl | rfl | rfl
    · exact ⟨3, rfl, by decide, by decide⟩
    · exact ⟨4, rfl, by decide, by decide⟩
    · exact ⟨5, rfl, by decide, by decide⟩
  obtain ⟨n, rfl, n3, n5⟩ := hx'
  repeat (first | (dsimp only [put, wipeG, List.set]) | (refine And.intro rfl ?_) | (refine And.intro True.intro ?_) | (refine And.intro ⟨rfl, rfl⟩ ?_) | (refine And.intro ⟨rfl, True.intro⟩ ?_) | (refine And.intro (by first | assumption | omega | exact .inr (.inl (fm_small _ (by decide) (by decide))) | (simp [put, wipeG]; done) | (simp [put, wipeG]; omega)) ?_) | (intro _))
  refine ⟨h1, [_], rfl, n + n, by simp, hh1, by omega, by omega, fun c h2 hf hl hb hh2 => ?_⟩
  have c1 : cutD (c.map dotD) none (some (n : Int)) = (c.take n).map dotD := cut_dots c n
  have c2 : cutD (c.map dotD) (some (n : Int)) none = (c.drop n).map dotD := by
    unfold cutD
    rw [HT.sIx_none, HT.sIx_nat, List.length_map, Nat.min_eq_left (by omega), List.map_drop, List.take_of_length_le (by rw [List.length_drop, List.length_map]; exact Nat.le_refl _)]
  have q2 := q (c.take n) (c.drop n) n h2 ⟨by rw [List.length_take]; omega, by rw [List.length_drop]; omega, n3, n5, by rw [List.take_append_drop]; exact hf⟩ (by rw [List.take_append_drop]; exact hb) hh2
  repeat (first | (dsimp only [put, wipeG, List.set]) | (refine And.intro rfl ?_) | (refine And.intro True.intro ?_) | (refine And.intro ⟨rfl, rfl⟩ ?_) | (refine And.intro ⟨rfl, True.intro⟩ ?_) | (refine And.intro (by first | assumption | omega | exact .inr (.inl (fm_small _ (by decide) (by decide))) | (simp [put, wipeG]; done) | (simp [put, wipeG]; omega)) ?_) | (intro _))
  rw [c1]
  repeat (first | (dsimp only [put, wipeG, List.set]) | (refine And.intro rfl ?_) | (refine And.intro True.intro ?_) | (refine And.intro ⟨rfl, rfl⟩ ?_) | (refine And.intro ⟨rfl, True.intro⟩ ?_) | (refine And.intro (by first | assumption | omega | exact .inr (.inl (fm_small _ (by decide) (by decide))) | (simp [put, wipeG]; done) | (simp [put, wipeG]; omega)) ?_) | (intro _))
  rw [c2]
  repeat (first | (dsimp only [put, wipeG, List.set]) | (refine And.intro rfl ?_) | (refine And.intro True.intro ?_) | (refine And.intro ⟨rfl, rfl⟩ ?_) | (refine And.intro ⟨rfl, True.intro⟩ ?_) | (refine And.intro (by first | assumption | omega | exact .inr (.inl (fm_small _ (by decide) (by decide))) | (simp [put, wipeG]; done) | (simp [put, wipeG]; omega)) ?_) | (intro _))
  exact q2
theorem ok__law_two (E : Fx K mg) : FnG P w K mg base CX0 4 E.f__law_two E.d__law_two ["hand", "sizes"] (spOf K 2 S__law_two) := fn_data E.F__law_two sc__law_two (wb := w__law_two) (fun c hK cdv A outer s H Ex hr hgd => by
  subst hK
  have hu1 := hu_of hr
  have hu0 := Nat.lt_of_succ_lt hu1
  have hr65 := unit65 hr
  have sc := sc__law_two
  exact psd_cons (psd_asg (pd_callL (ok__law_any E) rfl mono__law_any (hr.mono (by decide)) hgd E.g__law_any E.F__law_any.kp E.b__law_any (pda_cons (pd_n 0) (pda_cons (pd_n 1) (pda_nil)))) (pgd_tup rfl (pgds_cons (pgd_n (i := 2) sc.nd) (pgds_cons (pgd_n (i := 3) sc.nd) (pgds_nil (tg := [])))))) (psd_cons (psd_set (i := 4) sc.nd (pd_callL (ok__law_free_dots E) rfl mono__law_free_dots (hr.mono (by decide)) hgd E.g__law_free_dots E.F__law_free_dots.kp E.b__law_free_dots (pda_cons (pd_n 0) (pda_cons (pd_bin ok_add (pd_n 2) (pd_n 3)) (pda_nil))))) (psd_one (psd_ret (pd_tup (pda_cons (pd_callT ok_tuple E.z_tuple (by decide +kernel) (pda_cons (pd_slice (pd_n 4) (pod_none) (pod_some (pd_n 2))) (pda_nil))) (pda_cons (pd_callT ok_tuple E.z_tuple (by decide +kernel) (pda_cons (pd_slice (pd_n 4) (pod_some (pd_n 2)) (pod_none)) (pda_nil))) (pda_nil)))))))) vc__law_two
end
end Kd
end Dl
namespace Dl
namespace Kd
open PySem PySem.Spec PyProof.Rows
open L2
section
variable {P : Program} {w : World} {K : PySem.W.Frag} {mg : Str → Option Value} {base : Heap}
/-! ### both crowds moved alike -/
theorem at_mapC (f : Int × Int → Int × Int) {c : List (Int × Int)} {i : Int} (h0 : 0 ≤ i) (h : i < c.length) : atC (c.map f) i = f (atC c i) := by
  have hlt : i.toNat < c.length := by omega
  unfold atC
  rw [List.getElem?_map, List.getElem?_eq_getElem hlt]
  rfl
theorem nev_map {f : Int × Int → Int × Int} (hs : ∀ a b k l, crB (f a) (f b) (f k) (f l) = crB a b k l) {r b : List (Int × Int)} {n : Nat} (hr : r.length = n) (hb : b.length = n) {o : List Int} (ho : o.Perm (idL n)) : nevB (r.map f) (b.map f) o = nevB r b o := by
  have hl := ho.length_eq
  rw [idL_len] at hl
  have key : ∀ i j : Int, 0 ≤ j → j < i → i < o.length → crO (r.map f) (b.map f) o i j = crO r b o i j := fun i j h0 h1 h2 => by
    have oi := at_in ho (i := i) (by omega) (by omega)
    have oj := at_in ho (i := j) h0 (by omega)
    unfold crO
    rw [at_mapC f (c := r) (i := i) (by omega) (by omega), at_mapC f (c := r) (i := j) h0 (by omega), at_mapC f (c := b) oi.1 (by omega), at_mapC f (c := b) oj.1 (by omega), hs]
  rw [Bool.eq_iff_iff, nev_iff, nev_iff]
  constructor
  · exact fun h i j h0 h1 h2 => by rw [← key i j h0 h1 h2]; exact h i j h0 h1 h2
  · exact fun h i j h0 h1 h2 => by rw [key i j h0 h1 h2]; exact h i j h0 h1 h2
theorem good_map {f : Int × Int → Int × Int} (hs : ∀ a b k l, crB (f a) (f b) (f k) (f l) = crB a b k l) {r b : List (Int × Int)} {n : Nat} (hr : r.length = n) (hb : b.length = n) : goodL (r.map f) (b.map f) n = goodL r b n :=
  List.filter_congr fun o ho => nev_map hs hr hb (ord_perm ho)
theorem cr_mir (a b k l : Int × Int) : crB (-a.1, a.2) (-b.1, b.2) (-k.1, k.2) (-l.1, l.2) = crB a b k l := by
  have e : ∀ a b c : Int × Int, turnI (-a.1, a.2) (-b.1, b.2) (-c.1, c.2) = -turnI a b c := fun a b c => by
    have : areaI (-a.1, a.2) (-b.1, b.2) (-c.1, c.2) = -areaI a b c := by unfold areaI; grind
    unfold turnI
    rw [this, sgn_neg]
  unfold crB sepB
  simp only [e, Int.neg_mul_neg]
theorem cr_mov (v a b k l : Int × Int) : crB (a.1 + v.1, a.2 + v.2) (b.1 + v.1, b.2 + v.2) (k.1 + v.1, k.2 + v.2) (l.1 + v.1, l.2 + v.2) = crB a b k l := by
  have e : ∀ a b c : Int × Int, turnI (a.1 + v.1, a.2 + v.2) (b.1 + v.1, b.2 + v.2) (c.1 + v.1, c.2 + v.2) = turnI a b c := fun a b c => by
    have : areaI (a.1 + v.1, a.2 + v.2) (b.1 + v.1, b.2 + v.2) (c.1 + v.1, c.2 + v.2) = areaI a b c := by unfold areaI; grind
    unfold turnI
    rw [this]
  unfold crB sepB
  simp only [e]
theorem two_map {f : Int × Int → Int × Int} (inj : ∀ p q, f p = f q → p = q) (har : ∀ a b c, areaI a b c ≠ 0 → areaI (f a) (f b) (f c) ≠ 0) {r b : List (Int × Int)} {n : Nat} (h : TwoOk r b n) (hbox : ∀ p ∈ r ++ b, -10000 ≤ (f p).1 ∧ (f p).1 ≤ 10000 ∧ -10000 ≤ (f p).2 ∧ (f p).2 ≤ 10000) : TwoOk (r.map f) (b.map f) n := by
  refine ⟨by rw [List.length_map]; exact h.lr, by rw [List.length_map]; exact h.lb, h.n3, h.n5, ?_⟩
  rw [← List.map_append]
  refine ⟨⟨by rw [List.length_map]; exact h.free.ok.few, by rw [List.length_map]; exact h.free.ok.many, fun p hp => ?_, ?_⟩, fun i j k h0 h1 h2 h3 => ?_⟩
  · obtain ⟨q, hq, rfl⟩ := List.mem_map.mp hp
    exact hbox q hq
  · rw [List.Nodup, List.pairwise_map]
    exact h.free.ok.nd.imp fun hne e => hne (inj _ _ e)
  · rw [List.length_map] at h3
    rw [at_mapC f h0 (by omega), at_mapC f (i := j) (by omega) (by omega), at_mapC f (i := k) (by omega) h3]
    exact har _ _ _ (h.free.free i j k h0 h1 h2 h3)
end
end Kd
end Dl
namespace Dl
namespace Kd
open PySem PySem.Spec PyProof.Rows
open L2
section
variable {P : Program} {w : World} {K : PySem.W.Frag} {mg : Str → Option Value} {base : Heap}
/-! ### the crowds in the other order -/
theorem at_some {c : List (Int × Int)} {p : Int × Int} (h : p ∈ c) : ∃ i : Int, 0 ≤ i ∧ i < c.length ∧ atC c i = p := by
  obtain ⟨i, hi, e⟩ := List.getElem_of_mem h
  refine ⟨i, by omega, by omega, ?_⟩
  unfold atC
  rw [Int.toNat_natCast, List.getElem?_eq_getElem hi]
  exact e
theorem free_perm {c d : List (Int × Int)} (h : FreeOk c) (hp : d.Perm c) : FreeOk d := by
  have hl := hp.length_eq
  have nd : d.Nodup := hp.nodup_iff.mpr h.ok.nd
  refine ⟨⟨by rw [hl]; exact h.ok.few, by rw [hl]; exact h.ok.many, fun p hm => h.ok.box p (hp.mem_iff.mp hm), nd⟩, fun i j k h0 h1 h2 h3 => ?_⟩
  have ne : ∀ s t : Int, 0 ≤ s → s < t → t < d.length → atC d s ≠ atC d t := fun s t s0 st tn e => by
    have s2 : s.toNat < d.length := by omega
    have t2 : t.toNat < d.length := by omega
    unfold atC at e
    rw [List.getElem?_eq_getElem s2, List.getElem?_eq_getElem t2] at e
    have := (List.getElem_inj nd).mp (by simpa using e)
    omega
  have n1 := ne i j h0 h1 (by omega)
  have n2 := ne i k h0 (by omega) h3
  have n3 := ne j k (by omega) h2 h3
  obtain ⟨x, x0, x1, ex⟩ := at_some (hp.mem_iff.mp (at_ix (c := d) (i := i) h0 (by omega)).2)
  obtain ⟨y, y0, y1, ey⟩ := at_some (hp.mem_iff.mp (at_ix (c := d) (i := j) (by omega) (by omega)).2)
  obtain ⟨z, z0, z1, ez⟩ := at_some (hp.mem_iff.mp (at_ix (c := d) (i := k) (by omega) h3).2)
  rw [← ex, ← ey, ← ez]
  rw [← ex, ← ey] at n1
  rw [← ex, ← ez] at n2
  rw [← ey, ← ez] at n3
  exact free_any h ⟨x0, x1⟩ ⟨y0, y1⟩ ⟨z0, z1⟩ (fun e => n1 (by rw [e])) (fun e => n2 (by rw [e])) (fun e => n3 (by rw [e]))
theorem two_swap {r b : List (Int × Int)} {n : Nat} (h : TwoOk r b n) : TwoOk b r n := ⟨h.lb, h.lr, h.n3, h.n5, free_perm h.free List.perm_append_comm⟩
end
end Kd
end Dl
namespace Dl
namespace Kd
open PySem PySem.Spec PyProof.Rows
open L2
section
variable {P : Program} {w : World} {K : PySem.W.Frag} {mg : Str → Option Value} {base : Heap}
/-! ### the law's own look -/
def S__law_is_right : Dl.Spec := hanS fun h ds k => ∃ r b n, ds = [crowdD r, crowdD b] ∧ TwoOk r b n ∧ (∀ p ∈ r ++ b, -9000 ≤ p.1 ∧ p.1 ≤ 9000 ∧ -9000 ≤ p.2 ∧ p.2 ≤ 9000) ∧ HandOk h ∧ ∀ h', HandOk h' → k (.dat (.bl true)) h'
theorem mono__law_is_right : Mono S__law_is_right := mono_han fun l ds k k' hk hp => by
  obtain ⟨r, b, n, e, x, y, z, q⟩ := hp
  exact ⟨r, b, n, e, x, y, z, fun h' hh => hk _ _ (q h' hh)⟩
def w__law_is_right : WS := wSeq (wPar 3 4 (wLc [6] (wiSeq (wCall 1 S__law_orders (waC (wCB gLen (waC (wN 1) (waN))) (waN)))) (stN 6) (wTv (wCall 3 S__law_are_pairs (waC (wN 1) (waC (wN 2) (waC (wN 6) (waN)))))) (wN 6)) (wCB gReprE (waC (wLst (waC (wN 1) (waC (wN 2) (waN)))) (waN)))) (wSeq (wIfS (wOrT (wTv (wBin gEqA (wCB gLen (waC (wN 3) (waN))) (wD (.int 0)))) (wNotT (wTv (wCall 2 (S__law_same 2) (waC (wLst (waC (wCall 2 S_pairs_shown (waC (wN 1) (waC (wN 2) (waN)))) (waC (wCall 2 S_pairs_many (waC (wN 1) (waC (wN 2) (waN)))) (waN)))) (waC (wLst (waC (wBin gAt (wN 3) (wD (.int 0))) (waC (wCB gLen (waC (wN 3) (waN))) (waN)))) (waN))))))) (wRet (wD (.bl false))) (wNil)) (wSeq (wIfS (wOrT (wTv (wBin gNeA (wCall 2 S_pairs_shown (waC (wCall 1 S_mirrored (waC (wN 1) (waN))) (waC (wCall 1 S_mirrored (waC (wN 2) (waN))) (waN)))) (wBin gAt (wN 3) (wD (.int 0))))) (wTv (wBin gNeA (wCall 2 S_pairs_many (waC (wN 2) (waC (wN 1) (waN)))) (wCB gLen (waC (wN 3) (waN)))))) (wRet (wD (.bl false))) (wNil)) (wSeq (wAsg (wCallL 2 S__law_drawn (waC (wN 0) (waC (wD (.int 900)) (waN)))) (stN 5)) (wRet (wAndV (wBin gEqA (wCall 2 S_pairs_shown (waC (wCall 2 S_moved (waC (wN 1) (waC (wN 5) (waN)))) (waC (wCall 2 S_moved (waC (wN 2) (waC (wN 5) (waN)))) (waN)))) (wBin gAt (wN 3) (wD (.int 0)))) (wBin gEqA (wCB gReprE (waC (wLst (waC (wN 1) (waC (wN 2) (waN)))) (waN))) (wN 4)))))))
def t__law_is_right_1 : WS := wSeq (wIfS (wOrT (wTv (wBin gEqA (wCB gLen (waC (wN 3) (waN))) (wD (.int 0)))) (wNotT (wTv (wCall 2 (S__law_same 2) (waC (wLst (waC (wCall 2 S_pairs_shown (waC (wN 1) (waC (wN 2) (waN)))) (waC (wCall 2 S_pairs_many (waC (wN 1) (waC (wN 2) (waN)))) (waN)))) (waC (wLst (waC (wBin gAt (wN 3) (wD (.int 0))) (waC (wCB gLen (waC (wN 3) (waN))) (waN)))) (waN))))))) (wRet (wD (.bl false))) (wNil)) (wSeq (wIfS (wOrT (wTv (wBin gNeA (wCall 2 S_pairs_shown (waC (wCall 1 S_mirrored (waC (wN 1) (waN))) (waC (wCall 1 S_mirrored (waC (wN 2) (waN))) (waN)))) (wBin gAt (wN 3) (wD (.int 0))))) (wTv (wBin gNeA (wCall 2 S_pairs_many (waC (wN 2) (waC (wN 1) (waN)))) (wCB gLen (waC (wN 3) (waN)))))) (wRet (wD (.bl false))) (wNil)) (wSeq (wAsg (wCallL 2 S__law_drawn (waC (wN 0) (waC (wD (.int 900)) (waN)))) (stN 5)) (wRet (wAndV (wBin gEqA (wCall 2 S_pairs_shown (waC (wCall 2 S_moved (waC (wN 1) (waC (wN 5) (waN)))) (waC (wCall 2 S_moved (waC (wN 2) (waC (wN 5) (waN)))) (waN)))) (wBin gAt (wN 3) (wD (.int 0)))) (wBin gEqA (wCB gReprE (waC (wLst (waC (wN 1) (waC (wN 2) (waN)))) (waN))) (wN 4))))))
def t__law_is_right_2 : WS := wSeq (wIfS (wOrT (wTv (wBin gNeA (wCall 2 S_pairs_shown (waC (wCall 1 S_mirrored (waC (wN 1) (waN))) (waC (wCall 1 S_mirrored (waC (wN 2) (waN))) (waN)))) (wBin gAt (wN 3) (wD (.int 0))))) (wTv (wBin gNeA (wCall 2 S_pairs_many (waC (wN 2) (waC (wN 1) (waN)))) (wCB gLen (waC (wN 3) (waN)))))) (wRet (wD (.bl false))) (wNil)) (wSeq (wAsg (wCallL 2 S__law_drawn (waC (wN 0) (waC (wD (.int 900)) (waN)))) (stN 5)) (wRet (wAndV (wBin gEqA (wCall 2 S_pairs_shown (waC (wCall 2 S_moved (waC (wN 1) (waC (wN 5) (waN)))) (waC (wCall 2 S_moved (waC (wN 2) (waC (wN 5) (waN)))) (waN)))) (wBin gAt (wN 3) (wD (.int 0)))) (wBin gEqA (wCB gReprE (waC (wLst (waC (wN 1) (waC (wN 2) (waN)))) (waN))) (wN 4)))))
def t__law_is_right_3 : WS := wSeq (wAsg (wCallL 2 S__law_drawn (waC (wN 0) (waC (wD (.int 900)) (waN)))) (stN 5)) (wRet (wAndV (wBin gEqA (wCall 2 S_pairs_shown (waC (wCall 2 S_moved (waC (wN 1) (waC (wN 5) (waN)))) (waC (wCall 2 S_moved (waC (wN 2) (waC (wN 5) (waN)))) (waN)))) (wBin gAt (wN 3) (wD (.int 0)))) (wBin gEqA (wCB gReprE (waC (wLst (waC (wN 1) (waC (wN 2) (waN)))) (waN))) (wN 4))))
def t__law_is_right_4 : WS := wRet (wAndV (wBin gEqA (wCall 2 S_pairs_shown (waC (wCall 2 S_moved (waC (wN 1) (waC (wN 5) (waN)))) (waC (wCall 2 S_moved (waC (wN 2) (waC (wN 5) (waN)))) (waN)))) (wBin gAt (wN 3) (wD (.int 0)))) (wBin gEqA (wCB gReprE (waC (wLst (waC (wN 1) (waC (wN 2) (waN)))) (waN))) (wN 4)))
def u__law_is_right_0 : WS := wPar 3 4 (wLc [6] (wiSeq (wCall 1 S__law_orders (waC (wCB gLen (waC (wN 1) (waN))) (waN)))) (stN 6) (wTv (wCall 3 S__law_are_pairs (waC (wN 1) (waC (wN 2) (waC (wN 6) (waN)))))) (wN 6)) (wCB gReprE (waC (wLst (waC (wN 1) (waC (wN 2) (waN)))) (waN)))
def u__law_is_right_1 : WS := wIfS (wOrT (wTv (wBin gEqA (wCB gLen (waC (wN 3) (waN))) (wD (.int 0)))) (wNotT (wTv (wCall 2 (S__law_same 2) (waC (wLst (waC (wCall 2 S_pairs_shown (waC (wN 1) (waC (wN 2) (waN)))) (waC (wCall 2 S_pairs_many (waC (wN 1) (waC (wN 2) (waN)))) (waN)))) (waC (wLst (waC (wBin gAt (wN 3) (wD (.int 0))) (waC (wCB gLen (waC (wN 3) (waN))) (waN)))) (waN))))))) (wRet (wD (.bl false))) (wNil)
def u__law_is_right_2 : WS := wIfS (wOrT (wTv (wBin gNeA (wCall 2 S_pairs_shown (waC (wCall 1 S_mirrored (waC (wN 1) (waN))) (waC (wCall 1 S_mirrored (waC (wN 2) (waN))) (waN)))) (wBin gAt (wN 3) (wD (.int 0))))) (wTv (wBin gNeA (wCall 2 S_pairs_many (waC (wN 2) (waC (wN 1) (waN)))) (wCB gLen (waC (wN 3) (waN)))))) (wRet (wD (.bl false))) (wNil)
def u__law_is_right_3 : WS := wAsg (wCallL 2 S__law_drawn (waC (wN 0) (waC (wD (.int 900)) (waN)))) (stN 5)
def u__law_is_right_4 : WS := wRet (wAndV (wBin gEqA (wCall 2 S_pairs_shown (waC (wCall 2 S_moved (waC (wN 1) (waC (wN 5) (waN)))) (waC (wCall 2 S_moved (waC (wN 2) (waC (wN 5) (waN)))) (waN)))) (wBin gAt (wN 3) (wD (.int 0)))) (wBin gEqA (wCB gReprE (waC (wLst (waC (wN 1) (waC (wN 2) (waN)))) (waN))) (wN 4)))
theorem eq_lot49 (l m : List Int) : eqD (lotD l) (lotD m) = decide (l = m) := by
  have key : ∀ l m : List Int, PyData.eqvAll (toPs (l.map D.int)) (toPs (m.map D.int)) = decide (l = m) := by
    intro l
    induction l with
    | nil => intro m; cases m <;> simp [toPs, PyData.eqvAll]
    | cons a l ih =>
      intro m
      cases m with
      | nil => simp [toPs, PyData.eqvAll]
      | cons b m =>
        simp only [List.map_cons, toPs, PyData.eqvAll, ih m]
        by_cases h1 : a = b <;> by_cases h2 : l = m <;> simp [toP, PyData.eqv, h1, h2]
  unfold eqD lotD
  simp only [toP, PyData.eqv]
  exact key l m
theorem two_rp {r b : List (Int × Int)} {n : Nat} (h : TwoOk r b n) : RpE (.lst [crowdD r, crowdD b]) := by
  obtain ⟨hr, hb⟩ := two_left h
  have cr : ∀ c : List (Int × Int), c.length ≤ 5 → (∀ p ∈ c, -10000 ≤ p.1 ∧ p.1 ≤ 10000 ∧ -10000 ≤ p.2 ∧ p.2 ≤ 10000) → TOk 2 (5 * 9) (crowdD c) := fun c hc hx => by
    refine t_tup (b := 8) (fun d hd => ?_) (by rw [List.length_map]; exact hc)
    obtain ⟨p, hp, rfl⟩ := List.mem_map.mp hd
    have := hx p hp
    refine t_tup (N := 2) (b := 3) (fun d hd => ?_) (by simp)
    simp only [List.mem_cons, List.not_mem_nil, or_false] at hd
    rcases hd with rfl | rfl
    all_goals exact t_int (by omega) 0 _
  have all : TOk 3 (2 * 46) (.tup [crowdD r, crowdD b]) := by
    refine t_tup (fun d hd => ?_) (by simp)
    simp only [List.mem_cons, List.not_mem_nil, or_false] at hd
    rcases hd with rfl | rfl
    · exact cr r (by rw [h.lr]; exact h.n5) hr.box
    · exact cr b (by rw [h.lb]; exact h.n5) hb.box
  exact (t_thing (t_up (t_lst all) (by decide)) (by decide)).2
theorem vc__law_is_right : ∀ as rs Qd, ArRs as rs → rs.length = 3 → S__law_is_right as Qd → w__law_is_right (fin rs Qd) (gm0 7 rs) := vc_han fun ha h ds k hn hp => by
  obtain ⟨r, b, n, rfl, ht, hbx, hh, q⟩ := hp
  have om := ordN_many ht.n5
  have rl : ((r.map dotD).length : Int) = (n : Int) := by rw [List.length_map, ht.lr]
  have rp := two_rp ht
  have s0 : ∀ (E : SE), (∀ a, E.nx [some (.lst true ha h), some (.dat (.tup (r.map dotD))), some (.dat (.tup (b.map dotD))), some (.lst false a ((goodL r b n).map lotD)), some (.dat (.str (reprD (.lst [crowdD r, crowdD b])))), none, none]) → u__law_is_right_0 E [some (.lst true ha h), some (.dat (.tup (r.map dotD))), some (.dat (.tup (b.map dotD))), none, none, none, none] := fun E K => by
    repeat (first | (dsimp only [put, wipeG, List.set]) | (refine And.intro rfl ?_) | (refine And.intro True.intro ?_) | (refine And.intro ⟨rfl, rfl⟩ ?_) | (refine And.intro ⟨rfl, True.intro⟩ ?_) | (refine And.intro (by first | assumption | omega | exact .inr (.inl (fm_small _ (by decide) (by decide))) | (simp [put, wipeG]; done) | (simp [put, wipeG]; omega)) ?_) | (intro _))
    rw [rl]
    refine ⟨[_], rfl, n, rfl, ht.n5, ?_, ?_⟩
    all_goals (
      repeat (first | (dsimp only [put, wipeG, List.set]) | (refine And.intro rfl ?_) | (refine And.intro True.intro ?_) | (refine And.intro ⟨rfl, rfl⟩ ?_) | (refine And.intro ⟨rfl, True.intro⟩ ?_) | (refine And.intro (by first | assumption | omega | exact .inr (.inl (fm_small _ (by decide) (by decide))) | (simp [put, wipeG]; done) | (simp [put, wipeG]; omega)) ?_) | (intro _))
      refine lc_fm (gdF r b) _ _ (by rw [List.length_map]; omega) (by first | rfl | exact True.intro) (fun d hd K2 hK => ?_) ?_
      · obtain ⟨o, ho, rfl⟩ := List.mem_map.mp hd
        have po := ord_perm ho
        have hK' : K2 (if nevB r b ((o.map D.int).map unI) then some (lotD o) else none) _ := hK
        rw [un_map] at hK'
        repeat (first | (dsimp only [put, wipeG, List.set]) | (refine And.intro rfl ?_) | (refine And.intro True.intro ?_) | (refine And.intro ⟨rfl, rfl⟩ ?_) | (refine And.intro ⟨rfl, True.intro⟩ ?_) | (refine And.intro (by first | assumption | omega | exact .inr (.inl (fm_small _ (by decide) (by decide))) | (simp [put, wipeG]; done) | (simp [put, wipeG]; omega)) ?_) | (intro _))
        refine ⟨[_, _, _], rfl, r, b, n, o, rfl, ht, po, ?_⟩
        cases hB : nevB r b o with
        | false =>
          rw [hB] at hK'
          exact hK'
        | true =>
          rw [hB] at hK'
          repeat (first | (dsimp only [put, wipeG, List.set]) | (refine And.intro rfl ?_) | (refine And.intro True.intro ?_) | (refine And.intro ⟨rfl, rfl⟩ ?_) | (refine And.intro ⟨rfl, True.intro⟩ ?_) | (refine And.intro (by first | assumption | omega | exact .inr (.inl (fm_small _ (by decide) (by decide))) | (simp [put, wipeG]; done) | (simp [put, wipeG]; omega)) ?_) | (intro _))
          exact hK'
      · rw [gd_map]
        repeat (first | (dsimp only [put, wipeG, List.set]) | (refine And.intro rfl ?_) | (refine And.intro True.intro ?_) | (refine And.intro ⟨rfl, rfl⟩ ?_) | (refine And.intro ⟨rfl, True.intro⟩ ?_) | (refine And.intro (by first | assumption | omega | exact .inr (.inl (fm_small _ (by decide) (by decide))) | (simp [put, wipeG]; done) | (simp [put, wipeG]; omega)) ?_) | (intro _))
        first | exact K _ | exact And.intro rp (K _))
  obtain ⟨o, L, hg⟩ : ∃ o L, goodL r b n = o :: L := by
    cases e : goodL r b n with
    | nil => exact absurd e (good_some ht)
    | cons o L => exact ⟨o, L, rfl⟩
  have gl : ∀ o' L', goodL r b n = o' :: L' → o' = o := fun o' L' e => by
    rw [hg] at e
    injection e with e1 _
    exact e1.symm
  have eo : eqD (lotD o) (lotD o) = true := by rw [eq_lot49, decide_eq_true rfl]
  have so : sh (lotD o) 60 = true := sh_lstR o
  have n0 : decide (((((goodL r b n).map lotD).length : Nat) : Int) = 0) = false := decide_eq_false (by rw [hg, List.length_map, List.length_cons]; omega)
  have nst : nest 2 (.lst [lotD o, .int (((goodL r b n).map lotD).length : Nat)]) := by
    refine ⟨by simp, fun d hd => ?_⟩
    simp only [List.mem_cons, List.not_mem_nil, or_false] at hd
    rcases hd with rfl | rfl
    · have po := (ord_ok _ _ o (List.mem_filter.mp (show o ∈ goodL r b n by rw [hg]; simp)).1).len
      have := ht.n5
      refine ⟨by rw [List.length_map, po]; omega, fun d hd => ?_⟩
      obtain ⟨x, _, rfl⟩ := List.mem_map.mp hd
      rfl
    · rfl
  have s1 : ∀ (E : SE) (a : Addr), E.nx [some (.lst true ha h), some (.dat (.tup (r.map dotD))), some (.dat (.tup (b.map dotD))), some (.lst false a ((goodL r b n).map lotD)), some (.dat (.str (reprD (.lst [crowdD r, crowdD b])))), none, none] → u__law_is_right_1 E [some (.lst true ha h), some (.dat (.tup (r.map dotD))), some (.dat (.tup (b.map dotD))), some (.lst false a ((goodL r b n).map lotD)), some (.dat (.str (reprD (.lst [crowdD r, crowdD b])))), none, none] := fun E a K => by
    have ix0 : ixD ((goodL r b n).map lotD) 0 = some (lotD o) := by rw [hg]; rfl
    have em : ((((goodL r b n).map lotD).length : Nat) : Int) = ((goodL r b n).length : Int) := by rw [List.length_map]
    generalize reprD (.lst [crowdD r, crowdD b]) = sr at *
    repeat (first | (dsimp only [put, wipeG, List.set]) | (refine And.intro rfl ?_) | (refine And.intro True.intro ?_) | (refine And.intro ⟨rfl, rfl⟩ ?_) | (refine And.intro ⟨rfl, True.intro⟩ ?_) | (refine And.intro (by first | assumption | omega | exact .inr (.inl (fm_small _ (by decide) (by decide))) | (simp [put, wipeG]; done) | (simp [put, wipeG]; omega)) ?_) | (intro _))
    conv => whnf
    rw [ne_int, n0]
    repeat (first | (dsimp only [put, wipeG, List.set]) | (refine And.intro rfl ?_) | (refine And.intro True.intro ?_) | (refine And.intro ⟨rfl, rfl⟩ ?_) | (refine And.intro ⟨rfl, True.intro⟩ ?_) | (refine And.intro (by first | assumption | omega | exact .inr (.inl (fm_small _ (by decide) (by decide))) | (simp [put, wipeG]; done) | (simp [put, wipeG]; omega)) ?_) | (intro _))
    refine ⟨[_, _], rfl, r, b, n, rfl, ht, fun o' L' e => ?_⟩
    rw [gl o' L' e]
    repeat (first | (dsimp only [put, wipeG, List.set]) | (refine And.intro rfl ?_) | (refine And.intro True.intro ?_) | (refine And.intro ⟨rfl, rfl⟩ ?_) | (refine And.intro ⟨rfl, True.intro⟩ ?_) | (refine And.intro (by first | assumption | omega | exact .inr (.inl (fm_small _ (by decide) (by decide))) | (simp [put, wipeG]; done) | (simp [put, wipeG]; omega)) ?_) | (intro _))
    refine ⟨[_, _], rfl, r, b, n, rfl, ht, ?_⟩
    rw [← em]
    repeat (first | (dsimp only [put, wipeG, List.set]) | (refine And.intro rfl ?_) | (refine And.intro True.intro ?_) | (refine And.intro ⟨rfl, rfl⟩ ?_) | (refine And.intro ⟨rfl, True.intro⟩ ?_) | (refine And.intro (by first | assumption | omega | exact .inr (.inl (fm_small _ (by decide) (by decide))) | (simp [put, wipeG]; done) | (simp [put, wipeG]; omega)) ?_) | (intro _))
    conv => whnf
    simp only [ix0]
    repeat (first | (dsimp only [put, wipeG, List.set]) | (refine And.intro rfl ?_) | (refine And.intro True.intro ?_) | (refine And.intro ⟨rfl, rfl⟩ ?_) | (refine And.intro ⟨rfl, True.intro⟩ ?_) | (refine And.intro (by first | assumption | omega | exact .inr (.inl (fm_small _ (by decide) (by decide))) | (simp [put, wipeG]; done) | (simp [put, wipeG]; omega)) ?_) | (intro _))
    refine ⟨[_, _], rfl, rfl, nst, ?_⟩
    repeat (first | (dsimp only [put, wipeG, List.set]) | (refine And.intro rfl ?_) | (refine And.intro True.intro ?_) | (refine And.intro ⟨rfl, rfl⟩ ?_) | (refine And.intro ⟨rfl, True.intro⟩ ?_) | (refine And.intro (by first | assumption | omega | exact .inr (.inl (fm_small _ (by decide) (by decide))) | (simp [put, wipeG]; done) | (simp [put, wipeG]; omega)) ?_) | (intro _))
    exact K
  obtain ⟨hr, hb⟩ := two_left ht
  have ix0 : ixD ((goodL r b n).map lotD) 0 = some (lotD o) := by rw [hg]; rfl
  have em : ((((goodL r b n).map lotD).length : Nat) : Int) = ((goodL r b n).length : Int) := by rw [List.length_map]
  have tm : TwoOk (r.map fun (p : Int × Int) => (-p.1, p.2)) (b.map fun (p : Int × Int) => (-p.1, p.2)) n := two_map (fun p q e => by
      simp only [Prod.mk.injEq] at e
      exact Prod.ext (by omega) e.2) (fun a b' c z => by
      have : areaI (-a.1, a.2) (-b'.1, b'.2) (-c.1, c.2) = -areaI a b' c := by unfold areaI; grind
      rw [this]
      omega) ht (fun p hp => by
      have := hbx p hp
      simp only
      omega)
  have gm : goodL (r.map fun (p : Int × Int) => (-p.1, p.2)) (b.map fun (p : Int × Int) => (-p.1, p.2)) n = goodL r b n := good_map cr_mir ht.lr ht.lb
  have ts := two_swap ht
  have gs := good_same r b n
  have s2 : ∀ (E : SE) (a : Addr), E.nx [some (.lst true ha h), some (.dat (.tup (r.map dotD))), some (.dat (.tup (b.map dotD))), some (.lst false a ((goodL r b n).map lotD)), some (.dat (.str (reprD (.lst [crowdD r, crowdD b])))), none, none] → u__law_is_right_2 E [some (.lst true ha h), some (.dat (.tup (r.map dotD))), some (.dat (.tup (b.map dotD))), some (.lst false a ((goodL r b n).map lotD)), some (.dat (.str (reprD (.lst [crowdD r, crowdD b])))), none, none] := fun E a K => by
    generalize reprD (.lst [crowdD r, crowdD b]) = sr at *
    repeat (first | (dsimp only [put, wipeG, List.set]) | (refine And.intro rfl ?_) | (refine And.intro True.intro ?_) | (refine And.intro ⟨rfl, rfl⟩ ?_) | (refine And.intro ⟨rfl, True.intro⟩ ?_) | (refine And.intro (by first | assumption | omega | exact .inr (.inl (fm_small _ (by decide) (by decide))) | (simp [put, wipeG]; done) | (simp [put, wipeG]; omega)) ?_) | (intro _))
    refine ⟨[_], rfl, r, rfl, hr, ?_⟩
    repeat (first | (dsimp only [put, wipeG, List.set]) | (refine And.intro rfl ?_) | (refine And.intro True.intro ?_) | (refine And.intro ⟨rfl, rfl⟩ ?_) | (refine And.intro ⟨rfl, True.intro⟩ ?_) | (refine And.intro (by first | assumption | omega | exact .inr (.inl (fm_small _ (by decide) (by decide))) | (simp [put, wipeG]; done) | (simp [put, wipeG]; omega)) ?_) | (intro _))
    refine ⟨[_], rfl, b, rfl, hb, ?_⟩
    repeat (first | (dsimp only [put, wipeG, List.set]) | (refine And.intro rfl ?_) | (refine And.intro True.intro ?_) | (refine And.intro ⟨rfl, rfl⟩ ?_) | (refine And.intro ⟨rfl, True.intro⟩ ?_) | (refine And.intro (by first | assumption | omega | exact .inr (.inl (fm_small _ (by decide) (by decide))) | (simp [put, wipeG]; done) | (simp [put, wipeG]; omega)) ?_) | (intro _))
    refine ⟨[_, _], rfl, _, _, n, rfl, tm, fun o' L' e => ?_⟩
    rw [gm] at e
    rw [gl o' L' e]
    repeat (first | (dsimp only [put, wipeG, List.set]) | (refine And.intro rfl ?_) | (refine And.intro True.intro ?_) | (refine And.intro ⟨rfl, rfl⟩ ?_) | (refine And.intro ⟨rfl, True.intro⟩ ?_) | (refine And.intro (by first | assumption | omega | exact .inr (.inl (fm_small _ (by decide) (by decide))) | (simp [put, wipeG]; done) | (simp [put, wipeG]; omega)) ?_) | (intro _))
    conv => whnf
    simp only [ix0]
    have K2 := K
    repeat (first | (dsimp only [put, wipeG, List.set]) | (refine And.intro rfl ?_) | (refine And.intro True.intro ?_) | (refine And.intro ⟨rfl, rfl⟩ ?_) | (refine And.intro ⟨rfl, True.intro⟩ ?_) | (refine And.intro (by first | assumption | omega | exact .inr (.inl (fm_small _ (by decide) (by decide))) | (simp [put, wipeG]; done) | (simp [put, wipeG]; omega)) ?_) | (intro _))
    conv => whnf
    first | rw [eo] | rw [show eqD (D.tup (List.map D.int o)) (D.tup (List.map D.int o)) = true from eo] | rw [show eqD (lotD o) (D.tup (List.map D.int o)) = true from eo] | trace_state
    repeat (first | (dsimp only [put, wipeG, List.set]) | (refine And.intro rfl ?_) | (refine And.intro True.intro ?_) | (refine And.intro ⟨rfl, rfl⟩ ?_) | (refine And.intro ⟨rfl, True.intro⟩ ?_) | (refine And.intro (by first | assumption | omega | exact .inr (.inl (fm_small _ (by decide) (by decide))) | (simp [put, wipeG]; done) | (simp [put, wipeG]; omega)) ?_) | (intro _))
    refine ⟨[_, _], rfl, b, r, n, rfl, ts, ?_⟩
    rw [gs, ← em]
    repeat (first | (dsimp only [put, wipeG, List.set]) | (refine And.intro rfl ?_) | (refine And.intro True.intro ?_) | (refine And.intro ⟨rfl, rfl⟩ ?_) | (refine And.intro ⟨rfl, True.intro⟩ ?_) | (refine And.intro (by first | assumption | omega | exact .inr (.inl (fm_small _ (by decide) (by decide))) | (simp [put, wipeG]; done) | (simp [put, wipeG]; omega)) ?_) | (intro _))
    conv => whnf
    rw [ne_int, decide_eq_true rfl]
    exact K2
  have s34 : ∀ (a : Addr), t__law_is_right_3 (finH ha k) [some (.lst true ha h), some (.dat (.tup (r.map dotD))), some (.dat (.tup (b.map dotD))), some (.lst false a ((goodL r b n).map lotD)), some (.dat (.str (reprD (.lst [crowdD r, crowdD b])))), none, none] := fun a => by
    repeat (first | (dsimp only [put, wipeG, List.set]) | (refine And.intro rfl ?_) | (refine And.intro True.intro ?_) | (refine And.intro ⟨rfl, rfl⟩ ?_) | (refine And.intro ⟨rfl, True.intro⟩ ?_) | (refine And.intro (by first | assumption | omega | exact .inr (.inl (fm_small _ (by decide) (by decide))) | (simp [put, wipeG]; done) | (simp [put, wipeG]; omega)) ?_) | (intro _))
    refine ⟨h, [_], rfl, hh, by decide, by decide, fun x y h2 x0 x1 y0 y1 hh2 => ?_⟩
    have tv : TwoOk (r.map fun (p : Int × Int) => (p.1 + (x, y).1, p.2 + (x, y).2)) (b.map fun (p : Int × Int) => (p.1 + (x, y).1, p.2 + (x, y).2)) n := two_map (fun p q e => by
      simp only [Prod.mk.injEq] at e
      exact Prod.ext (by omega) (by omega)) (fun a b' c z => by
      have : areaI (a.1 + (x, y).1, a.2 + (x, y).2) (b'.1 + (x, y).1, b'.2 + (x, y).2) (c.1 + (x, y).1, c.2 + (x, y).2) = areaI a b' c := by unfold areaI; grind
      rw [this]
      exact z) ht (fun p hp => by
      have := hbx p hp
      simp only
      omega)
    have gv : goodL (r.map fun (p : Int × Int) => (p.1 + (x, y).1, p.2 + (x, y).2)) (b.map fun (p : Int × Int) => (p.1 + (x, y).1, p.2 + (x, y).2)) n = goodL r b n := good_map (cr_mov (x, y)) ht.lr ht.lb
    obtain ⟨hr2, hb2⟩ := two_left tv
    have dxy := dot_isDot (p := (x, y)) (by simp only; omega)
    repeat (first | (dsimp only [put, wipeG, List.set]) | (refine And.intro rfl ?_) | (refine And.intro True.intro ?_) | (refine And.intro ⟨rfl, rfl⟩ ?_) | (refine And.intro ⟨rfl, True.intro⟩ ?_) | (refine And.intro (by first | assumption | omega | exact .inr (.inl (fm_small _ (by decide) (by decide))) | (simp [put, wipeG]; done) | (simp [put, wipeG]; omega)) ?_) | (intro _))
    refine ⟨[_, _], rfl, r, (x, y), rfl, hr, dxy, hr2.box, ?_⟩
    repeat (first | (dsimp only [put, wipeG, List.set]) | (refine And.intro rfl ?_) | (refine And.intro True.intro ?_) | (refine And.intro ⟨rfl, rfl⟩ ?_) | (refine And.intro ⟨rfl, True.intro⟩ ?_) | (refine And.intro (by first | assumption | omega | exact .inr (.inl (fm_small _ (by decide) (by decide))) | (simp [put, wipeG]; done) | (simp [put, wipeG]; omega)) ?_) | (intro _))
    refine ⟨[_, _], rfl, b, (x, y), rfl, hb, dxy, hb2.box, ?_⟩
    repeat (first | (dsimp only [put, wipeG, List.set]) | (refine And.intro rfl ?_) | (refine And.intro True.intro ?_) | (refine And.intro ⟨rfl, rfl⟩ ?_) | (refine And.intro ⟨rfl, True.intro⟩ ?_) | (refine And.intro (by first | assumption | omega | exact .inr (.inl (fm_small _ (by decide) (by decide))) | (simp [put, wipeG]; done) | (simp [put, wipeG]; omega)) ?_) | (intro _))
    refine ⟨[_, _], rfl, _, _, n, rfl, tv, fun o' L' e => ?_⟩
    rw [gv] at e
    rw [gl o' L' e]
    repeat (first | (dsimp only [put, wipeG, List.set]) | (refine And.intro rfl ?_) | (refine And.intro True.intro ?_) | (refine And.intro ⟨rfl, rfl⟩ ?_) | (refine And.intro ⟨rfl, True.intro⟩ ?_) | (refine And.intro (by first | assumption | omega | exact .inr (.inl (fm_small _ (by decide) (by decide))) | (simp [put, wipeG]; done) | (simp [put, wipeG]; omega)) ?_) | (intro _))
    conv => whnf
    simp only [ix0]
    repeat (first | (dsimp only [put, wipeG, List.set]) | (refine And.intro rfl ?_) | (refine And.intro True.intro ?_) | (refine And.intro ⟨rfl, rfl⟩ ?_) | (refine And.intro ⟨rfl, True.intro⟩ ?_) | (refine And.intro (by first | assumption | omega | exact .inr (.inl (fm_small _ (by decide) (by decide))) | (simp [put, wipeG]; done) | (simp [put, wipeG]; omega)) ?_) | (intro _))
    conv => whnf
    first | rw [eo] | rw [show eqD (D.tup (List.map D.int o)) (D.tup (List.map D.int o)) = true from eo] | rw [show eqD (lotD o) (D.tup (List.map D.int o)) = true from eo] | trace_state
    have q2 := q h2 hh2
    repeat (first | (dsimp only [put, wipeG, List.set]) | (refine And.intro rfl ?_) | (refine And.intro True.intro ?_) | (refine And.intro ⟨rfl, rfl⟩ ?_) | (refine And.intro ⟨rfl, True.intro⟩ ?_) | (refine And.intro (by first | assumption | omega | exact .inr (.inl (fm_small _ (by decide) (by decide))) | (simp [put, wipeG]; done) | (simp [put, wipeG]; omega)) ?_) | (intro _))
    first | (refine And.intro rp ?_) | skip
    generalize hs : reprD (.lst [crowdD r, crowdD b]) = sr at *
    repeat (first | (dsimp only [put, wipeG, List.set]) | (refine And.intro rfl ?_) | (refine And.intro True.intro ?_) | (refine And.intro ⟨rfl, rfl⟩ ?_) | (refine And.intro ⟨rfl, True.intro⟩ ?_) | (refine And.intro (by first | assumption | omega | exact .inr (.inl (fm_small _ (by decide) (by decide))) | (simp [put, wipeG]; done) | (simp [put, wipeG]; omega)) ?_) | (intro _))
    conv => whnf
    rw [show decide (reprD (D.lst [D.tup (List.map dotD r), D.tup (List.map dotD b)]) = sr) = true from decide_eq_true hs]
    exact q2
  show u__law_is_right_0 ⟨t__law_is_right_1 (finH ha k), (finH ha k).rt⟩ [some (.lst true ha h), some (.dat (.tup (r.map dotD))), some (.dat (.tup (b.map dotD))), none, none, none, none]
  refine s0 _ fun a => ?_
  refine s1 ⟨t__law_is_right_2 (finH ha k), (finH ha k).rt⟩ a ?_
  refine s2 ⟨t__law_is_right_3 (finH ha k), (finH ha k).rt⟩ a ?_
  exact s34 a
theorem ok__law_is_right (E : Fx K mg) : FnG P w K mg base CX0 8 E.f__law_is_right E.d__law_is_right ["hand", "red", "blue"] (spOf K 3 S__law_is_right) := fn_data E.F__law_is_right sc__law_is_right (wb := w__law_is_right) (fun c hK cdv A outer s H Ex hr hgd => by
  subst hK
  have hu1 := hu_of hr
  have hu0 := Nat.lt_of_succ_lt hu1
  have hr65 := unit65 hr
  have sc := sc__law_is_right
  exact psd_cons (psd_par (i := 3) (j := 4) rfl sc.nd (pd_lc (own := [("row", 6)]) (tgs := [6]) rfl sc.nd (pid_seq (pd_call (ok__law_orders E) rfl (hr.mono (by decide)) hgd E.g__law_orders E.F__law_orders.kp E.b__law_orders (pda_cons (pd_callB ok_len E.z_len (by decide +kernel) (pda_cons (pd_n 1) (pda_nil))) (pda_nil)))) (by (show blkC ["hand", "red", "blue", "good", "before", "by", "row"] (defScope s__law_is_right) _ _ = true); decide +kernel) (by decide) (fun _ _ _ _ _ => pgd_n (i := 6) sc.nd) (fun _ _ _ _ _ => ptsd_one (ptd_val (pd_call (ok__law_are_pairs E) rfl (hr.mono (by decide)) hgd E.g__law_are_pairs E.F__law_are_pairs.kp E.b__law_are_pairs (pda_cons (pd_n 1) (pda_cons (pd_n 2) (pda_cons (pd_n 6) (pda_nil))))))) (fun _ _ _ _ _ => pd_n 6)) (pd_callB (ok_reprE hr65 hgd) E.z_repr (by decide +kernel) (pda_cons (pd_lst (pda_cons (pd_n 1) (pda_cons (pd_n 2) (pda_nil)))) (pda_nil)))) (psd_cons (psd_if (L2.PW.pt (pwd_or (ptd_cmp (ok_eqA hr.units) (pd_callB ok_len E.z_len (by decide +kernel) (pda_cons (pd_n 3) (pda_nil))) (pd_int)) (pwd_or1 (ptd_not (ptd_val (pd_call (ok__law_same_2 E) rfl (hr.mono (by decide)) hgd E.g__law_same E.F__law_same.kp E.b__law_same (pda_cons (pd_lst (pda_cons (pd_call (ok_pairs_shown E) rfl (hr.mono (by decide)) hgd E.g_pairs_shown E.F_pairs_shown.kp E.b_pairs_shown (pda_cons (pd_n 1) (pda_cons (pd_n 2) (pda_nil)))) (pda_cons (pd_call (ok_pairs_many E) rfl (hr.mono (by decide)) hgd E.g_pairs_many E.F_pairs_many.kp E.b_pairs_many (pda_cons (pd_n 1) (pda_cons (pd_n 2) (pda_nil)))) (pda_nil)))) (pda_cons (pd_lst (pda_cons (pd_sub hu1 (pd_n 3) (pd_int)) (pda_cons (pd_callB ok_len E.z_len (by decide +kernel) (pda_cons (pd_n 3) (pda_nil))) (pda_nil)))) (pda_nil))))))))) (psd_one (psd_ret (pd_bl))) (psd_nil)) (psd_cons (psd_if (L2.PW.pt (pwd_or (ptd_cmp (ok_neA hr.units) (pd_call (ok_pairs_shown E) rfl (hr.mono (by decide)) hgd E.g_pairs_shown E.F_pairs_shown.kp E.b_pairs_shown (pda_cons (pd_call (ok_mirrored E) rfl (hr.mono (by decide)) hgd E.g_mirrored E.F_mirrored.kp E.b_mirrored (pda_cons (pd_n 1) (pda_nil))) (pda_cons (pd_call (ok_mirrored E) rfl (hr.mono (by decide)) hgd E.g_mirrored E.F_mirrored.kp E.b_mirrored (pda_cons (pd_n 2) (pda_nil))) (pda_nil)))) (pd_sub hu1 (pd_n 3) (pd_int))) (pwd_or1 (ptd_cmp (ok_neA hr.units) (pd_call (ok_pairs_many E) rfl (hr.mono (by decide)) hgd E.g_pairs_many E.F_pairs_many.kp E.b_pairs_many (pda_cons (pd_n 2) (pda_cons (pd_n 1) (pda_nil)))) (pd_callB ok_len E.z_len (by decide +kernel) (pda_cons (pd_n 3) (pda_nil))))))) (psd_one (psd_ret (pd_bl))) (psd_nil)) (psd_cons (psd_set (i := 5) sc.nd (pd_callL (ok__law_drawn E) rfl mono__law_drawn (hr.mono (by decide)) hgd E.g__law_drawn E.F__law_drawn.kp E.b__law_drawn (pda_cons (pd_n 0) (pda_cons (pd_int) (pda_nil))))) (psd_one (psd_ret (pd_and (pd_cmp (ok_eqA hr.units) (pd_call (ok_pairs_shown E) rfl (hr.mono (by decide)) hgd E.g_pairs_shown E.F_pairs_shown.kp E.b_pairs_shown (pda_cons (pd_call (ok_moved E) rfl (hr.mono (by decide)) hgd E.g_moved E.F_moved.kp E.b_moved (pda_cons (pd_n 1) (pda_cons (pd_n 5) (pda_nil)))) (pda_cons (pd_call (ok_moved E) rfl (hr.mono (by decide)) hgd E.g_moved E.F_moved.kp E.b_moved (pda_cons (pd_n 2) (pda_cons (pd_n 5) (pda_nil)))) (pda_nil)))) (pd_sub hu1 (pd_n 3) (pd_int))) (pd_one (pd_cmp (ok_eqA hr.units) (pd_callB (ok_reprE hr65 hgd) E.z_repr (by decide +kernel) (pda_cons (pd_lst (pda_cons (pd_n 1) (pda_cons (pd_n 2) (pda_nil)))) (pda_nil))) (pd_n 4)))))))))) vc__law_is_right
end
end Kd
end Dl
namespace Dl
namespace Kd
open PySem PySem.Spec PyProof.Rows
open L2
section
variable {P : Program} {w : World} {K : PySem.W.Frag} {mg : Str → Option Value} {base : Heap}
/-! ### the law -/
def S_law : Dl.Spec := lawSpec
def w_law : WS := wSeq (wAsg (wCall 1 S__law_hand (waC (wN 0) (waN))) (stN 1)) (wSeq (wAsg (wLst (waC (wCall 2 S_pairs_shown (waC (wTup (waC (wTup (waC (wD (.int 0)) (waC (wD (.int 0)) (waN)))) (waC (wTup (waC (wD (.int 1)) (waC (wD (.int 3)) (waN)))) (waC (wTup (waC (wD (.int 0)) (waC (wD (.int 7)) (waN)))) (waN))))) (waC (wTup (waC (wTup (waC (wD (.int 9)) (waC (wD (.int 0)) (waN)))) (waC (wTup (waC (wD (.int 8)) (waC (wD (.int 3)) (waN)))) (waC (wTup (waC (wD (.int 9)) (waC (wD (.int 8)) (waN)))) (waN))))) (waN)))) (waC (wCall 2 S_pairs_many (waC (wTup (waC (wTup (waC (wD (.int 0)) (waC (wD (.int 0)) (waN)))) (waC (wTup (waC (wD (.int 1)) (waC (wD (.int 3)) (waN)))) (waC (wTup (waC (wD (.int 0)) (waC (wD (.int 7)) (waN)))) (waN))))) (waC (wTup (waC (wTup (waC (wD (.int 9)) (waC (wD (.int 0)) (waN)))) (waC (wTup (waC (wD (.int 8)) (waC (wD (.int 3)) (waN)))) (waC (wTup (waC (wD (.int 9)) (waC (wD (.int 8)) (waN)))) (waN))))) (waN)))) (waC (wCall 2 S_pairs_shown (waC (wTup (waC (wTup (waC (wD (.int 0)) (waC (wD (.int 0)) (waN)))) (waC (wTup (waC (wD (.int 1)) (waC (wD (.int 3)) (waN)))) (waC (wTup (waC (wD (.int 0)) (waC (wD (.int 7)) (waN)))) (waN))))) (waC (wTup (waC (wTup (waC (wD (.int 9)) (waC (wD (.int 8)) (waN)))) (waC (wTup (waC (wD (.int 8)) (waC (wD (.int 3)) (waN)))) (waC (wTup (waC (wD (.int 9)) (waC (wD (.int 0)) (waN)))) (waN))))) (waN)))) (waN))))) (stN 2)) (wSeq (wIfS (wNotT (wTv (wCall 2 (S__law_same 2) (waC (wN 2) (waC (wLst (waC (wTup (waC (wD (.int 0)) (waC (wD (.int 1)) (waC (wD (.int 2)) (waN))))) (waC (wD (.int 1)) (waC (wTup (waC (wD (.int 2)) (waC (wD (.int 1)) (waC (wD (.int 0)) (waN))))) (waN))))) (waN)))))) (wRet (wD (.bl false))) (wNil)) (wSeq (wFor (wiR1 (waC (wD (.int 6)) (waN))) (stN 3) (wSeq (wAsg (wCallL 2 S__law_two (waC (wN 1) (waC (wLst (waC (wTup (waC (wD (.int 3)) (waC (wD (.int 3)) (waN)))) (waC (wTup (waC (wD (.int 4)) (waC (wD (.int 4)) (waN)))) (waC (wTup (waC (wD (.int 5)) (waC (wD (.int 5)) (waN)))) (waN))))) (waN)))) (stTup 2 (stCons (stN 4) (stCons (stN 5) (stNil))))) (wIfS (wNotT (wTv (wCallL 3 S__law_is_right (waC (wN 1) (waC (wN 4) (waC (wN 5) (waN))))))) (wRet (wD (.bl false))) (wNil)))) (wRet (wD (.bl true))))))
def t_law_1 : WS := wSeq (wAsg (wLst (waC (wCall 2 S_pairs_shown (waC (wTup (waC (wTup (waC (wD (.int 0)) (waC (wD (.int 0)) (waN)))) (waC (wTup (waC (wD (.int 1)) (waC (wD (.int 3)) (waN)))) (waC (wTup (waC (wD (.int 0)) (waC (wD (.int 7)) (waN)))) (waN))))) (waC (wTup (waC (wTup (waC (wD (.int 9)) (waC (wD (.int 0)) (waN)))) (waC (wTup (waC (wD (.int 8)) (waC (wD (.int 3)) (waN)))) (waC (wTup (waC (wD (.int 9)) (waC (wD (.int 8)) (waN)))) (waN))))) (waN)))) (waC (wCall 2 S_pairs_many (waC (wTup (waC (wTup (waC (wD (.int 0)) (waC (wD (.int 0)) (waN)))) (waC (wTup (waC (wD (.int 1)) (waC (wD (.int 3)) (waN)))) (waC (wTup (waC (wD (.int 0)) (waC (wD (.int 7)) (waN)))) (waN))))) (waC (wTup (waC (wTup (waC (wD (.int 9)) (waC (wD (.int 0)) (waN)))) (waC (wTup (waC (wD (.int 8)) (waC (wD (.int 3)) (waN)))) (waC (wTup (waC (wD (.int 9)) (waC (wD (.int 8)) (waN)))) (waN))))) (waN)))) (waC (wCall 2 S_pairs_shown (waC (wTup (waC (wTup (waC (wD (.int 0)) (waC (wD (.int 0)) (waN)))) (waC (wTup (waC (wD (.int 1)) (waC (wD (.int 3)) (waN)))) (waC (wTup (waC (wD (.int 0)) (waC (wD (.int 7)) (waN)))) (waN))))) (waC (wTup (waC (wTup (waC (wD (.int 9)) (waC (wD (.int 8)) (waN)))) (waC (wTup (waC (wD (.int 8)) (waC (wD (.int 3)) (waN)))) (waC (wTup (waC (wD (.int 9)) (waC (wD (.int 0)) (waN)))) (waN))))) (waN)))) (waN))))) (stN 2)) (wSeq (wIfS (wNotT (wTv (wCall 2 (S__law_same 2) (waC (wN 2) (waC (wLst (waC (wTup (waC (wD (.int 0)) (waC (wD (.int 1)) (waC (wD (.int 2)) (waN))))) (waC (wD (.int 1)) (waC (wTup (waC (wD (.int 2)) (waC (wD (.int 1)) (waC (wD (.int 0)) (waN))))) (waN))))) (waN)))))) (wRet (wD (.bl false))) (wNil)) (wSeq (wFor (wiR1 (waC (wD (.int 6)) (waN))) (stN 3) (wSeq (wAsg (wCallL 2 S__law_two (waC (wN 1) (waC (wLst (waC (wTup (waC (wD (.int 3)) (waC (wD (.int 3)) (waN)))) (waC (wTup (waC (wD (.int 4)) (waC (wD (.int 4)) (waN)))) (waC (wTup (waC (wD (.int 5)) (waC (wD (.int 5)) (waN)))) (waN))))) (waN)))) (stTup 2 (stCons (stN 4) (stCons (stN 5) (stNil))))) (wIfS (wNotT (wTv (wCallL 3 S__law_is_right (waC (wN 1) (waC (wN 4) (waC (wN 5) (waN))))))) (wRet (wD (.bl false))) (wNil)))) (wRet (wD (.bl true)))))
def t_law_2 : WS := wSeq (wIfS (wNotT (wTv (wCall 2 (S__law_same 2) (waC (wN 2) (waC (wLst (waC (wTup (waC (wD (.int 0)) (waC (wD (.int 1)) (waC (wD (.int 2)) (waN))))) (waC (wD (.int 1)) (waC (wTup (waC (wD (.int 2)) (waC (wD (.int 1)) (waC (wD (.int 0)) (waN))))) (waN))))) (waN)))))) (wRet (wD (.bl false))) (wNil)) (wSeq (wFor (wiR1 (waC (wD (.int 6)) (waN))) (stN 3) (wSeq (wAsg (wCallL 2 S__law_two (waC (wN 1) (waC (wLst (waC (wTup (waC (wD (.int 3)) (waC (wD (.int 3)) (waN)))) (waC (wTup (waC (wD (.int 4)) (waC (wD (.int 4)) (waN)))) (waC (wTup (waC (wD (.int 5)) (waC (wD (.int 5)) (waN)))) (waN))))) (waN)))) (stTup 2 (stCons (stN 4) (stCons (stN 5) (stNil))))) (wIfS (wNotT (wTv (wCallL 3 S__law_is_right (waC (wN 1) (waC (wN 4) (waC (wN 5) (waN))))))) (wRet (wD (.bl false))) (wNil)))) (wRet (wD (.bl true))))
def t_law_3 : WS := wSeq (wFor (wiR1 (waC (wD (.int 6)) (waN))) (stN 3) (wSeq (wAsg (wCallL 2 S__law_two (waC (wN 1) (waC (wLst (waC (wTup (waC (wD (.int 3)) (waC (wD (.int 3)) (waN)))) (waC (wTup (waC (wD (.int 4)) (waC (wD (.int 4)) (waN)))) (waC (wTup (waC (wD (.int 5)) (waC (wD (.int 5)) (waN)))) (waN))))) (waN)))) (stTup 2 (stCons (stN 4) (stCons (stN 5) (stNil))))) (wIfS (wNotT (wTv (wCallL 3 S__law_is_right (waC (wN 1) (waC (wN 4) (waC (wN 5) (waN))))))) (wRet (wD (.bl false))) (wNil)))) (wRet (wD (.bl true)))
def t_law_4 : WS := wRet (wD (.bl true))
def u_law_0 : WS := wAsg (wCall 1 S__law_hand (waC (wN 0) (waN))) (stN 1)
def u_law_1 : WS := wAsg (wLst (waC (wCall 2 S_pairs_shown (waC (wTup (waC (wTup (waC (wD (.int 0)) (waC (wD (.int 0)) (waN)))) (waC (wTup (waC (wD (.int 1)) (waC (wD (.int 3)) (waN)))) (waC (wTup (waC (wD (.int 0)) (waC (wD (.int 7)) (waN)))) (waN))))) (waC (wTup (waC (wTup (waC (wD (.int 9)) (waC (wD (.int 0)) (waN)))) (waC (wTup (waC (wD (.int 8)) (waC (wD (.int 3)) (waN)))) (waC (wTup (waC (wD (.int 9)) (waC (wD (.int 8)) (waN)))) (waN))))) (waN)))) (waC (wCall 2 S_pairs_many (waC (wTup (waC (wTup (waC (wD (.int 0)) (waC (wD (.int 0)) (waN)))) (waC (wTup (waC (wD (.int 1)) (waC (wD (.int 3)) (waN)))) (waC (wTup (waC (wD (.int 0)) (waC (wD (.int 7)) (waN)))) (waN))))) (waC (wTup (waC (wTup (waC (wD (.int 9)) (waC (wD (.int 0)) (waN)))) (waC (wTup (waC (wD (.int 8)) (waC (wD (.int 3)) (waN)))) (waC (wTup (waC (wD (.int 9)) (waC (wD (.int 8)) (waN)))) (waN))))) (waN)))) (waC (wCall 2 S_pairs_shown (waC (wTup (waC (wTup (waC (wD (.int 0)) (waC (wD (.int 0)) (waN)))) (waC (wTup (waC (wD (.int 1)) (waC (wD (.int 3)) (waN)))) (waC (wTup (waC (wD (.int 0)) (waC (wD (.int 7)) (waN)))) (waN))))) (waC (wTup (waC (wTup (waC (wD (.int 9)) (waC (wD (.int 8)) (waN)))) (waC (wTup (waC (wD (.int 8)) (waC (wD (.int 3)) (waN)))) (waC (wTup (waC (wD (.int 9)) (waC (wD (.int 0)) (waN)))) (waN))))) (waN)))) (waN))))) (stN 2)
def u_law_2 : WS := wIfS (wNotT (wTv (wCall 2 (S__law_same 2) (waC (wN 2) (waC (wLst (waC (wTup (waC (wD (.int 0)) (waC (wD (.int 1)) (waC (wD (.int 2)) (waN))))) (waC (wD (.int 1)) (waC (wTup (waC (wD (.int 2)) (waC (wD (.int 1)) (waC (wD (.int 0)) (waN))))) (waN))))) (waN)))))) (wRet (wD (.bl false))) (wNil)
def u_law_3 : WS := wFor (wiR1 (waC (wD (.int 6)) (waN))) (stN 3) (wSeq (wAsg (wCallL 2 S__law_two (waC (wN 1) (waC (wLst (waC (wTup (waC (wD (.int 3)) (waC (wD (.int 3)) (waN)))) (waC (wTup (waC (wD (.int 4)) (waC (wD (.int 4)) (waN)))) (waC (wTup (waC (wD (.int 5)) (waC (wD (.int 5)) (waN)))) (waN))))) (waN)))) (stTup 2 (stCons (stN 4) (stCons (stN 5) (stNil))))) (wIfS (wNotT (wTv (wCallL 3 S__law_is_right (waC (wN 1) (waC (wN 4) (waC (wN 5) (waN))))))) (wRet (wD (.bl false))) (wNil)))
def u_law_4 : WS := wRet (wD (.bl true))
def rC : List (Int × Int) := [(0, 0), (1, 3), (0, 7)]
def bC : List (Int × Int) := [(9, 0), (8, 3), (9, 8)]
def dC : List (Int × Int) := [(9, 8), (8, 3), (9, 0)]
theorem free_six {c : List (Int × Int)} (h : CrowdOk c) (hl : c.length = 6) (hd : ((idL 6).all fun i => (idL 6).all fun j => (idL 6).all fun k => decide (i < j → j < k → areaI (atC c i) (atC c j) (atC c k) ≠ 0)) = true) : FreeOk c := ⟨h, fun i j k h0 h1 h2 h3 => by
  have mem : ∀ x : Int, 0 ≤ x → x < 6 → x ∈ idL 6 := fun x a b => List.mem_map.mpr ⟨x.toNat, List.mem_range.mpr (by omega), by omega⟩
  have a := List.all_eq_true.mp hd i (mem i h0 (by omega))
  have b := List.all_eq_true.mp a j (mem j (by omega) (by omega))
  have c := List.all_eq_true.mp b k (mem k (by omega) (by omega))
  exact of_decide_eq_true c h1 h2⟩
theorem t1_ok : TwoOk rC bC 3 := ⟨rfl, rfl, by decide, by decide, free_six ⟨by decide, by decide, by decide, by decide⟩ rfl (by decide +kernel)⟩
theorem t2_ok : TwoOk rC dC 3 := ⟨rfl, rfl, by decide, by decide, free_six ⟨by decide, by decide, by decide, by decide⟩ rfl (by decide +kernel)⟩
theorem g1 : goodL rC bC 3 = [[0, 1, 2]] := by decide +kernel
theorem g2 : (goodL rC dC 3).head? = some [2, 1, 0] := by decide +kernel
theorem heard_nest : nest 2 (.lst [.tup [.int 0, .int 1, .int 2], .int 1, .tup [.int 2, .int 1, .int 0]]) := by
  refine ⟨by decide, fun d hd => ?_⟩
  simp only [List.mem_cons, List.not_mem_nil, or_false] at hd
  rcases hd with rfl | rfl | rfl
  · refine ⟨by decide, fun d hd => ?_⟩
    simp only [List.mem_cons, List.not_mem_nil, or_false] at hd
    rcases hd with rfl | rfl | rfl <;> rfl
  · rfl
  · refine ⟨by decide, fun d hd => ?_⟩
    simp only [List.mem_cons, List.not_mem_nil, or_false] at hd
    rcases hd with rfl | rfl | rfl <;> rfl
theorem vc_law : ∀ as rs Qd, ArRs as rs → rs.length = 1 → S_law as Qd → w_law (fin rs Qd) (gm0 6 rs) := by
  intro as rs Qd har hl hS
  unfold S_law lawSpec at hS
  split at hS; rotate_left; exact hS.elim
  rename_i l
  obtain ⟨hlen, q⟩ := hS
  obtain rfl := arRs_dats (ds := [.scr l]) har
  have tail : ∀ (ah : Addr) (h : List D) (x2 : Option R), HandOk h → t_law_3 (fin ([D.scr l].map R.dat) Qd) [some (.dat (.scr l)), some (.lst false ah h), x2, none, none, none] := fun ah h x2 hh => by
    refine And.intro (by omega) ?_
    refine loop_rule (fun r Γ => ∃ h x3 x4 x5, HandOk h ∧ Γ = [some (.dat (.scr l)), some (.lst false ah h), x2, x3, x4, x5]) (fun _ _ _ => True.intro) ?_ ?_ _ _ ⟨h, none, none, none, hh, rfl⟩
    · rintro Γ ⟨h, x3, x4, x5, hh, rfl⟩
      exact q
    · rintro d r Γ K ⟨h, x3, x4, x5, hh, rfl⟩ hK
      repeat (first | (dsimp only [put, wipeG, List.set]) | (refine And.intro rfl ?_) | (refine And.intro True.intro ?_) | (refine And.intro ⟨rfl, rfl⟩ ?_) | (refine And.intro ⟨rfl, True.intro⟩ ?_) | (refine And.intro (by first | assumption | omega | exact .inr (.inl (fm_small _ (by decide) (by decide))) | (simp [put, wipeG]; done) | (simp [put, wipeG]; omega)) ?_) | (intro _))
      refine ⟨h, [_], rfl, rfl, hh, fun r b n h1 ht hb hh1 => ?_⟩
      repeat (first | (dsimp only [put, wipeG, List.set]) | (refine And.intro rfl ?_) | (refine And.intro True.intro ?_) | (refine And.intro ⟨rfl, rfl⟩ ?_) | (refine And.intro ⟨rfl, True.intro⟩ ?_) | (refine And.intro (by first | assumption | omega | exact .inr (.inl (fm_small _ (by decide) (by decide))) | (simp [put, wipeG]; done) | (simp [put, wipeG]; omega)) ?_) | (intro _))
      refine ⟨h1, [_, _], rfl, r, b, n, rfl, ht, hb, hh1, fun h2 hh2 => ?_⟩
      repeat (first | (dsimp only [put, wipeG, List.set]) | (refine And.intro rfl ?_) | (refine And.intro True.intro ?_) | (refine And.intro ⟨rfl, rfl⟩ ?_) | (refine And.intro ⟨rfl, True.intro⟩ ?_) | (refine And.intro (by first | assumption | omega | exact .inr (.inl (fm_small _ (by decide) (by decide))) | (simp [put, wipeG]; done) | (simp [put, wipeG]; omega)) ?_) | (intro _))
      exact hK _ ⟨h2, _, _, _, hh2, rfl⟩
  show w_law (fin ([D.scr l].map R.dat) Qd) [some (.dat (.scr l)), none, none, none, none, none]
  repeat (first | (dsimp only [put, wipeG, List.set]) | (refine And.intro rfl ?_) | (refine And.intro True.intro ?_) | (refine And.intro ⟨rfl, rfl⟩ ?_) | (refine And.intro ⟨rfl, True.intro⟩ ?_) | (refine And.intro (by first | assumption | omega | exact .inr (.inl (fm_small _ (by decide) (by decide))) | (simp [put, wipeG]; done) | (simp [put, wipeG]; omega)) ?_) | (intro _))
  refine ⟨[_], rfl, hlen, fun h hh => ?_⟩
  repeat (first | (dsimp only [put, wipeG, List.set]) | (refine And.intro rfl ?_) | (refine And.intro True.intro ?_) | (refine And.intro ⟨rfl, rfl⟩ ?_) | (refine And.intro ⟨rfl, True.intro⟩ ?_) | (refine And.intro (by first | assumption | omega | exact .inr (.inl (fm_small _ (by decide) (by decide))) | (simp [put, wipeG]; done) | (simp [put, wipeG]; omega)) ?_) | (intro _))
  refine ⟨[_, _], rfl, rC, bC, 3, rfl, t1_ok, fun o L e => ?_⟩
  rw [g1] at e
  injection e with e1 _
  subst e1
  repeat (first | (dsimp only [put, wipeG, List.set]) | (refine And.intro rfl ?_) | (refine And.intro True.intro ?_) | (refine And.intro ⟨rfl, rfl⟩ ?_) | (refine And.intro ⟨rfl, True.intro⟩ ?_) | (refine And.intro (by first | assumption | omega | exact .inr (.inl (fm_small _ (by decide) (by decide))) | (simp [put, wipeG]; done) | (simp [put, wipeG]; omega)) ?_) | (intro _))
  refine ⟨[_, _], rfl, rC, bC, 3, rfl, t1_ok, ?_⟩
  rw [g1]
  repeat (first | (dsimp only [put, wipeG, List.set]) | (refine And.intro rfl ?_) | (refine And.intro True.intro ?_) | (refine And.intro ⟨rfl, rfl⟩ ?_) | (refine And.intro ⟨rfl, True.intro⟩ ?_) | (refine And.intro (by first | assumption | omega | exact .inr (.inl (fm_small _ (by decide) (by decide))) | (simp [put, wipeG]; done) | (simp [put, wipeG]; omega)) ?_) | (intro _))
  refine ⟨[_, _], rfl, rC, dC, 3, rfl, t2_ok, fun o L e => ?_⟩
  have g := g2
  rw [e] at g
  injection g with e1
  have e1 : o = [2, 1, 0] := e1
  subst e1
  repeat (first | (dsimp only [put, wipeG, List.set]) | (refine And.intro rfl ?_) | (refine And.intro True.intro ?_) | (refine And.intro ⟨rfl, rfl⟩ ?_) | (refine And.intro ⟨rfl, True.intro⟩ ?_) | (refine And.intro (by first | assumption | omega | exact .inr (.inl (fm_small _ (by decide) (by decide))) | (simp [put, wipeG]; done) | (simp [put, wipeG]; omega)) ?_) | (intro _))
  refine ⟨[_, _], rfl, rfl, heard_nest, ?_⟩
  exact tail _ _ _ hh
theorem ok_law (E : Fx K mg) : FnG P w K mg base CX0 9 E.f_law E.d_law ["script"] (spOf K 1 S_law) := fn_data E.F_law sc_law (wb := w_law) (fun c hK cdv A outer s H Ex hr hgd => by
  subst hK
  have hu1 := hu_of hr
  have hu0 := Nat.lt_of_succ_lt hu1
  have hr65 := unit65 hr
  have sc := sc_law
  exact psd_cons (psd_set (i := 1) sc.nd (pd_call (ok__law_hand E) rfl (hr.mono (by decide)) hgd E.g__law_hand E.F__law_hand.kp E.b__law_hand (pda_cons (pd_n 0) (pda_nil)))) (psd_cons (psd_set (i := 2) sc.nd (pd_lst (pda_cons (pd_call (ok_pairs_shown E) rfl (hr.mono (by decide)) hgd E.g_pairs_shown E.F_pairs_shown.kp E.b_pairs_shown (pda_cons (pd_tup (pda_cons (pd_tup (pda_cons (pd_int) (pda_cons (pd_int) (pda_nil)))) (pda_cons (pd_tup (pda_cons (pd_int) (pda_cons (pd_int) (pda_nil)))) (pda_cons (pd_tup (pda_cons (pd_int) (pda_cons (pd_int) (pda_nil)))) (pda_nil))))) (pda_cons (pd_tup (pda_cons (pd_tup (pda_cons (pd_int) (pda_cons (pd_int) (pda_nil)))) (pda_cons (pd_tup (pda_cons (pd_int) (pda_cons (pd_int) (pda_nil)))) (pda_cons (pd_tup (pda_cons (pd_int) (pda_cons (pd_int) (pda_nil)))) (pda_nil))))) (pda_nil)))) (pda_cons (pd_call (ok_pairs_many E) rfl (hr.mono (by decide)) hgd E.g_pairs_many E.F_pairs_many.kp E.b_pairs_many (pda_cons (pd_tup (pda_cons (pd_tup (pda_cons (pd_int) (pda_cons (pd_int) (pda_nil)))) (pda_cons (pd_tup (pda_cons (pd_int) (pda_cons (pd_int) (pda_nil)))) (pda_cons (pd_tup (pda_cons (pd_int) (pda_cons (pd_int) (pda_nil)))) (pda_nil))))) (pda_cons (pd_tup (pda_cons (pd_tup (pda_cons (pd_int) (pda_cons (pd_int) (pda_nil)))) (pda_cons (pd_tup (pda_cons (pd_int) (pda_cons (pd_int) (pda_nil)))) (pda_cons (pd_tup (pda_cons (pd_int) (pda_cons (pd_int) (pda_nil)))) (pda_nil))))) (pda_nil)))) (pda_cons (pd_call (ok_pairs_shown E) rfl (hr.mono (by decide)) hgd E.g_pairs_shown E.F_pairs_shown.kp E.b_pairs_shown (pda_cons (pd_tup (pda_cons (pd_tup (pda_cons (pd_int) (pda_cons (pd_int) (pda_nil)))) (pda_cons (pd_tup (pda_cons (pd_int) (pda_cons (pd_int) (pda_nil)))) (pda_cons (pd_tup (pda_cons (pd_int) (pda_cons (pd_int) (pda_nil)))) (pda_nil))))) (pda_cons (pd_tup (pda_cons (pd_tup (pda_cons (pd_int) (pda_cons (pd_int) (pda_nil)))) (pda_cons (pd_tup (pda_cons (pd_int) (pda_cons (pd_int) (pda_nil)))) (pda_cons (pd_tup (pda_cons (pd_int) (pda_cons (pd_int) (pda_nil)))) (pda_nil))))) (pda_nil)))) (pda_nil)))))) (psd_cons (psd_if (ptd_not (ptd_val (pd_call (ok__law_same_2 E) rfl (hr.mono (by decide)) hgd E.g__law_same E.F__law_same.kp E.b__law_same (pda_cons (pd_n 2) (pda_cons (pd_lst (pda_cons (pd_tup (pda_cons (pd_int) (pda_cons (pd_int) (pda_cons (pd_int) (pda_nil))))) (pda_cons (pd_int) (pda_cons (pd_tup (pda_cons (pd_int) (pda_cons (pd_int) (pda_cons (pd_int) (pda_nil))))) (pda_nil))))) (pda_nil)))))) (psd_one (psd_ret (pd_bl))) (psd_nil)) (psd_cons (psd_for PassesOwn.never rfl (pid_range1 E.z_range (pda_cons (pd_int) (pda_nil))) (pgd_n (i := 3) sc.nd) (psd_cons (psd_asg (pd_callL (ok__law_two E) rfl mono__law_two (hr.mono (by decide)) hgd E.g__law_two E.F__law_two.kp E.b__law_two (pda_cons (pd_n 1) (pda_cons (pd_lst (pda_cons (pd_tup (pda_cons (pd_int) (pda_cons (pd_int) (pda_nil)))) (pda_cons (pd_tup (pda_cons (pd_int) (pda_cons (pd_int) (pda_nil)))) (pda_cons (pd_tup (pda_cons (pd_int) (pda_cons (pd_int) (pda_nil)))) (pda_nil))))) (pda_nil)))) (pgd_tup rfl (pgds_cons (pgd_n (i := 4) sc.nd) (pgds_cons (pgd_n (i := 5) sc.nd) (pgds_nil (tg := [])))))) (psd_one (psd_if (ptd_not (ptd_val (pd_callL (ok__law_is_right E) rfl mono__law_is_right (hr.mono (by decide)) hgd E.g__law_is_right E.F__law_is_right.kp E.b__law_is_right (pda_cons (pd_n 1) (pda_cons (pd_n 4) (pda_cons (pd_n 5) (pda_nil))))))) (psd_one (psd_ret (pd_bl))) (psd_nil))))) (psd_one (psd_ret (pd_bl))))))) vc_law
end
end Kd
end Dl
namespace Dl
namespace Kd
open PySem PySem.Spec PyProof.Rows
open L2
theorem all_mk {l : PySem.W.OpenLaw} {w : World} {K : PySem.W.Frag} {h : Heap} {mg : Str → Option Value} {fa : Addr} (X : K.In h) (G : h.Ns mainGlobals mg) (hfa : mg "law" = some (.ref fa))
    {od0 an0 : Option Addr} {sl0 : Array (Option Value)} {oc0 kV0 dc0 pm0 cd0 ct0 : Value} {f0 : Addr}
    {od1 an1 : Option Addr} {sl1 : Array (Option Value)} {oc1 kV1 dc1 pm1 cd1 ct1 : Value} {f1 : Addr}
    {od2 an2 : Option Addr} {sl2 : Array (Option Value)} {oc2 kV2 dc2 pm2 cd2 ct2 : Value} {f2 : Addr}
    {od3 an3 : Option Addr} {sl3 : Array (Option Value)} {oc3 kV3 dc3 pm3 cd3 ct3 : Value} {f3 : Addr}
    {od4 an4 : Option Addr} {sl4 : Array (Option Value)} {oc4 kV4 dc4 pm4 cd4 ct4 : Value} {f4 : Addr}
    {od5 an5 : Option Addr} {sl5 : Array (Option Value)} {oc5 kV5 dc5 pm5 cd5 ct5 : Value} {f5 : Addr}
    {od6 an6 : Option Addr} {sl6 : Array (Option Value)} {oc6 kV6 dc6 pm6 cd6 ct6 : Value} {f6 : Addr}
    {od7 an7 : Option Addr} {sl7 : Array (Option Value)} {oc7 kV7 dc7 pm7 cd7 ct7 : Value} {f7 : Addr}
    {od8 an8 : Option Addr} {sl8 : Array (Option Value)} {oc8 kV8 dc8 pm8 cd8 ct8 : Value} {f8 : Addr}
    {od9 an9 : Option Addr} {sl9 : Array (Option Value)} {oc9 kV9 dc9 pm9 cd9 ct9 : Value} {f9 : Addr}
    {od10 an10 : Option Addr} {sl10 : Array (Option Value)} {oc10 kV10 dc10 pm10 cd10 ct10 : Value} {f10 : Addr}
    {od11 an11 : Option Addr} {sl11 : Array (Option Value)} {oc11 kV11 dc11 pm11 cd11 ct11 : Value} {f11 : Addr}
    {od12 an12 : Option Addr} {sl12 : Array (Option Value)} {oc12 kV12 dc12 pm12 cd12 ct12 : Value} {f12 : Addr}
    {od13 an13 : Option Addr} {sl13 : Array (Option Value)} {oc13 kV13 dc13 pm13 cd13 ct13 : Value} {f13 : Addr}
    {od14 an14 : Option Addr} {sl14 : Array (Option Value)} {oc14 kV14 dc14 pm14 cd14 ct14 : Value} {f14 : Addr}
    {od15 an15 : Option Addr} {sl15 : Array (Option Value)} {oc15 kV15 dc15 pm15 cd15 ct15 : Value} {f15 : Addr}
    {od16 an16 : Option Addr} {sl16 : Array (Option Value)} {oc16 kV16 dc16 pm16 cd16 ct16 : Value} {f16 : Addr}
    {od17 an17 : Option Addr} {sl17 : Array (Option Value)} {oc17 kV17 dc17 pm17 cd17 ct17 : Value} {f17 : Addr}
    {od18 an18 : Option Addr} {sl18 : Array (Option Value)} {oc18 kV18 dc18 pm18 cd18 ct18 : Value} {f18 : Addr}
    {od19 an19 : Option Addr} {sl19 : Array (Option Value)} {oc19 kV19 dc19 pm19 cd19 ct19 : Value} {f19 : Addr}
    {od20 an20 : Option Addr} {sl20 : Array (Option Value)} {oc20 kV20 dc20 pm20 cd20 ct20 : Value} {f20 : Addr}
    {od21 an21 : Option Addr} {sl21 : Array (Option Value)} {oc21 kV21 dc21 pm21 cd21 ct21 : Value} {f21 : Addr}
    {od22 an22 : Option Addr} {sl22 : Array (Option Value)} {oc22 kV22 dc22 pm22 cd22 ct22 : Value} {f22 : Addr}
    {od23 an23 : Option Addr} {sl23 : Array (Option Value)} {oc23 kV23 dc23 pm23 cd23 ct23 : Value} {f23 : Addr}
    {od24 an24 : Option Addr} {sl24 : Array (Option Value)} {oc24 kV24 dc24 pm24 cd24 ct24 : Value} {f24 : Addr}
    {od25 an25 : Option Addr} {sl25 : Array (Option Value)} {oc25 kV25 dc25 pm25 cd25 ct25 : Value} {f25 : Addr}
    {od26 an26 : Option Addr} {sl26 : Array (Option Value)} {oc26 kV26 dc26 pm26 cd26 ct26 : Value} {f26 : Addr}
    {od27 an27 : Option Addr} {sl27 : Array (Option Value)} {oc27 kV27 dc27 pm27 cd27 ct27 : Value} {f27 : Addr}
    {od28 an28 : Option Addr} {sl28 : Array (Option Value)} {oc28 kV28 dc28 pm28 cd28 ct28 : Value} {f28 : Addr}
    {od29 an29 : Option Addr} {sl29 : Array (Option Value)} {oc29 kV29 dc29 pm29 cd29 ct29 : Value} {f29 : Addr}
    {od30 an30 : Option Addr} {sl30 : Array (Option Value)} {oc30 kV30 dc30 pm30 cd30 ct30 : Value} {f30 : Addr}
    {od31 an31 : Option Addr} {sl31 : Array (Option Value)} {oc31 kV31 dc31 pm31 cd31 ct31 : Value} {f31 : Addr}
    {od32 an32 : Option Addr} {sl32 : Array (Option Value)} {oc32 kV32 dc32 pm32 cd32 ct32 : Value} {f32 : Addr}
    {od33 an33 : Option Addr} {sl33 : Array (Option Value)} {oc33 kV33 dc33 pm33 cd33 ct33 : Value} {f33 : Addr}
    {od34 an34 : Option Addr} {sl34 : Array (Option Value)} {oc34 kV34 dc34 pm34 cd34 ct34 : Value} {f34 : Addr}
    {od35 an35 : Option Addr} {sl35 : Array (Option Value)} {oc35 kV35 dc35 pm35 cd35 ct35 : Value} {f35 : Addr}
    {od36 an36 : Option Addr} {sl36 : Array (Option Value)} {oc36 kV36 dc36 pm36 cd36 ct36 : Value} {f36 : Addr}
    (a0 : PySem.W.nsIn K mainGlobals "_law_hand" = some (some (.ref f0))) (l0 : K.lookup f0 = some ⟨oc0, od0, .func (PySem.W.fnOf "_law_hand" "_law_hand" (defArgs s__law_hand) (defBody s__law_hand) (defScope s__law_hand) .none kV0 dc0 pm0 an0 cd0 ct0), sl0⟩) (c0 : PySem.W.codeIn K cd0 "_law_hand" = true) (k0 : PySem.W.keepIn K (.ref f0) = true)
    (a1 : PySem.W.nsIn K mainGlobals "is_integer" = some (some (.ref f1))) (l1 : K.lookup f1 = some ⟨oc1, od1, .func (PySem.W.fnOf "is_integer" "is_integer" (defArgs s_is_integer) (defBody s_is_integer) (defScope s_is_integer) .none kV1 dc1 pm1 an1 cd1 ct1), sl1⟩) (c1 : PySem.W.codeIn K cd1 "is_integer" = true) (k1 : PySem.W.keepIn K (.ref f1) = true)
    (a2 : PySem.W.nsIn K mainGlobals "is_within" = some (some (.ref f2))) (l2 : K.lookup f2 = some ⟨oc2, od2, .func (PySem.W.fnOf "is_within" "is_within" (defArgs s_is_within) (defBody s_is_within) (defScope s_is_within) .none kV2 dc2 pm2 an2 cd2 ct2), sl2⟩) (c2 : PySem.W.codeIn K cd2 "is_within" = true) (k2 : PySem.W.keepIn K (.ref f2) = true)
    (a3 : PySem.W.nsIn K mainGlobals "is_dot" = some (some (.ref f3))) (l3 : K.lookup f3 = some ⟨oc3, od3, .func (PySem.W.fnOf "is_dot" "is_dot" (defArgs s_is_dot) (defBody s_is_dot) (defScope s_is_dot) .none kV3 dc3 pm3 an3 cd3 ct3), sl3⟩) (c3 : PySem.W.codeIn K cd3 "is_dot" = true) (k3 : PySem.W.keepIn K (.ref f3) = true)
    (a4 : PySem.W.nsIn K mainGlobals "is_crowd" = some (some (.ref f4))) (l4 : K.lookup f4 = some ⟨oc4, od4, .func (PySem.W.fnOf "is_crowd" "is_crowd" (defArgs s_is_crowd) (defBody s_is_crowd) (defScope s_is_crowd) .none kV4 dc4 pm4 an4 cd4 ct4), sl4⟩) (c4 : PySem.W.codeIn K cd4 "is_crowd" = true) (k4 : PySem.W.keepIn K (.ref f4) = true)
    (a5 : PySem.W.nsIn K mainGlobals "check_crowd" = some (some (.ref f5))) (l5 : K.lookup f5 = some ⟨oc5, od5, .func (PySem.W.fnOf "check_crowd" "check_crowd" (defArgs s_check_crowd) (defBody s_check_crowd) (defScope s_check_crowd) .none kV5 dc5 pm5 an5 cd5 ct5), sl5⟩) (c5 : PySem.W.codeIn K cd5 "check_crowd" = true) (k5 : PySem.W.keepIn K (.ref f5) = true)
    (a6 : PySem.W.nsIn K mainGlobals "side_of" = some (some (.ref f6))) (l6 : K.lookup f6 = some ⟨oc6, od6, .func (PySem.W.fnOf "side_of" "side_of" (defArgs s_side_of) (defBody s_side_of) (defScope s_side_of) .none kV6 dc6 pm6 an6 cd6 ct6), sl6⟩) (c6 : PySem.W.codeIn K cd6 "side_of" = true) (k6 : PySem.W.keepIn K (.ref f6) = true)
    (a7 : PySem.W.nsIn K mainGlobals "raw_area" = some (some (.ref f7))) (l7 : K.lookup f7 = some ⟨oc7, od7, .func (PySem.W.fnOf "raw_area" "raw_area" (defArgs s_raw_area) (defBody s_raw_area) (defScope s_raw_area) .none kV7 dc7 pm7 an7 cd7 ct7), sl7⟩) (c7 : PySem.W.codeIn K cd7 "raw_area" = true) (k7 : PySem.W.keepIn K (.ref f7) = true)
    (a8 : PySem.W.nsIn K mainGlobals "raw_turn" = some (some (.ref f8))) (l8 : K.lookup f8 = some ⟨oc8, od8, .func (PySem.W.fnOf "raw_turn" "raw_turn" (defArgs s_raw_turn) (defBody s_raw_turn) (defScope s_raw_turn) .none kV8 dc8 pm8 an8 cd8 ct8), sl8⟩) (c8 : PySem.W.codeIn K cd8 "raw_turn" = true) (k8 : PySem.W.keepIn K (.ref f8) = true)
    (a9 : PySem.W.nsIn K mainGlobals "is_joined_free" = some (some (.ref f9))) (l9 : K.lookup f9 = some ⟨oc9, od9, .func (PySem.W.fnOf "is_joined_free" "is_joined_free" (defArgs s_is_joined_free) (defBody s_is_joined_free) (defScope s_is_joined_free) .none kV9 dc9 pm9 an9 cd9 ct9), sl9⟩) (c9 : PySem.W.codeIn K cd9 "is_joined_free" = true) (k9 : PySem.W.keepIn K (.ref f9) = true)
    (a10 : PySem.W.nsIn K mainGlobals "check_paired" = some (some (.ref f10))) (l10 : K.lookup f10 = some ⟨oc10, od10, .func (PySem.W.fnOf "check_paired" "check_paired" (defArgs s_check_paired) (defBody s_check_paired) (defScope s_check_paired) .none kV10 dc10 pm10 an10 cd10 ct10), sl10⟩) (c10 : PySem.W.codeIn K cd10 "check_paired" = true) (k10 : PySem.W.keepIn K (.ref f10) = true)
    (a11 : PySem.W.nsIn K mainGlobals "all_orders" = some (some (.ref f11))) (l11 : K.lookup f11 = some ⟨oc11, od11, .func (PySem.W.fnOf "all_orders" "all_orders" (defArgs s_all_orders) (defBody s_all_orders) (defScope s_all_orders) .none kV11 dc11 pm11 an11 cd11 ct11), sl11⟩) (c11 : PySem.W.codeIn K cd11 "all_orders" = true) (k11 : PySem.W.keepIn K (.ref f11) = true)
    (a12 : PySem.W.nsIn K mainGlobals "lies_between" = some (some (.ref f12))) (l12 : K.lookup f12 = some ⟨oc12, od12, .func (PySem.W.fnOf "lies_between" "lies_between" (defArgs s_lies_between) (defBody s_lies_between) (defScope s_lies_between) .none kV12 dc12 pm12 an12 cd12 ct12), sl12⟩) (c12 : PySem.W.codeIn K cd12 "lies_between" = true) (k12 : PySem.W.keepIn K (.ref f12) = true)
    (a13 : PySem.W.nsIn K mainGlobals "ways_meet" = some (some (.ref f13))) (l13 : K.lookup f13 = some ⟨oc13, od13, .func (PySem.W.fnOf "ways_meet" "ways_meet" (defArgs s_ways_meet) (defBody s_ways_meet) (defScope s_ways_meet) .none kV13 dc13 pm13 an13 cd13 ct13), sl13⟩) (c13 : PySem.W.codeIn K cd13 "ways_meet" = true) (k13 : PySem.W.keepIn K (.ref f13) = true)
    (a14 : PySem.W.nsIn K mainGlobals "never_cross" = some (some (.ref f14))) (l14 : K.lookup f14 = some ⟨oc14, od14, .func (PySem.W.fnOf "never_cross" "never_cross" (defArgs s_never_cross) (defBody s_never_cross) (defScope s_never_cross) .none kV14 dc14 pm14 an14 cd14 ct14), sl14⟩) (c14 : PySem.W.codeIn K cd14 "never_cross" = true) (k14 : PySem.W.keepIn K (.ref f14) = true)
    (a15 : PySem.W.nsIn K mainGlobals "all_pairs" = some (some (.ref f15))) (l15 : K.lookup f15 = some ⟨oc15, od15, .func (PySem.W.fnOf "all_pairs" "all_pairs" (defArgs s_all_pairs) (defBody s_all_pairs) (defScope s_all_pairs) .none kV15 dc15 pm15 an15 cd15 ct15), sl15⟩) (c15 : PySem.W.codeIn K cd15 "all_pairs" = true) (k15 : PySem.W.keepIn K (.ref f15) = true)
    (a16 : PySem.W.nsIn K mainGlobals "pairs_shown" = some (some (.ref f16))) (l16 : K.lookup f16 = some ⟨oc16, od16, .func (PySem.W.fnOf "pairs_shown" "pairs_shown" (defArgs s_pairs_shown) (defBody s_pairs_shown) (defScope s_pairs_shown) .none kV16 dc16 pm16 an16 cd16 ct16), sl16⟩) (c16 : PySem.W.codeIn K cd16 "pairs_shown" = true) (k16 : PySem.W.keepIn K (.ref f16) = true)
    (a17 : PySem.W.nsIn K mainGlobals "pairs_many" = some (some (.ref f17))) (l17 : K.lookup f17 = some ⟨oc17, od17, .func (PySem.W.fnOf "pairs_many" "pairs_many" (defArgs s_pairs_many) (defBody s_pairs_many) (defScope s_pairs_many) .none kV17 dc17 pm17 an17 cd17 ct17), sl17⟩) (c17 : PySem.W.codeIn K cd17 "pairs_many" = true) (k17 : PySem.W.keepIn K (.ref f17) = true)
    (a18 : PySem.W.nsIn K mainGlobals "_law_same" = some (some (.ref f18))) (l18 : K.lookup f18 = some ⟨oc18, od18, .func (PySem.W.fnOf "_law_same" "_law_same" (defArgs s__law_same) (defBody s__law_same) (defScope s__law_same) .none kV18 dc18 pm18 an18 cd18 ct18), sl18⟩) (c18 : PySem.W.codeIn K cd18 "_law_same" = true) (k18 : PySem.W.keepIn K (.ref f18) = true)
    (a19 : PySem.W.nsIn K mainGlobals "_law_draw" = some (some (.ref f19))) (l19 : K.lookup f19 = some ⟨oc19, od19, .func (PySem.W.fnOf "_law_draw" "_law_draw" (defArgs s__law_draw) (defBody s__law_draw) (defScope s__law_draw) .none kV19 dc19 pm19 an19 cd19 ct19), sl19⟩) (c19 : PySem.W.codeIn K cd19 "_law_draw" = true) (k19 : PySem.W.keepIn K (.ref f19) = true)
    (a20 : PySem.W.nsIn K mainGlobals "_law_any" = some (some (.ref f20))) (l20 : K.lookup f20 = some ⟨oc20, od20, .func (PySem.W.fnOf "_law_any" "_law_any" (defArgs s__law_any) (defBody s__law_any) (defScope s__law_any) .none kV20 dc20 pm20 an20 cd20 ct20), sl20⟩) (c20 : PySem.W.codeIn K cd20 "_law_any" = true) (k20 : PySem.W.keepIn K (.ref f20) = true)
    (a21 : PySem.W.nsIn K mainGlobals "_law_drawn" = some (some (.ref f21))) (l21 : K.lookup f21 = some ⟨oc21, od21, .func (PySem.W.fnOf "_law_drawn" "_law_drawn" (defArgs s__law_drawn) (defBody s__law_drawn) (defScope s__law_drawn) .none kV21 dc21 pm21 an21 cd21 ct21), sl21⟩) (c21 : PySem.W.codeIn K cd21 "_law_drawn" = true) (k21 : PySem.W.keepIn K (.ref f21) = true)
    (a22 : PySem.W.nsIn K mainGlobals "_law_mixed" = some (some (.ref f22))) (l22 : K.lookup f22 = some ⟨oc22, od22, .func (PySem.W.fnOf "_law_mixed" "_law_mixed" (defArgs s__law_mixed) (defBody s__law_mixed) (defScope s__law_mixed) .none kV22 dc22 pm22 an22 cd22 ct22), sl22⟩) (c22 : PySem.W.codeIn K cd22 "_law_mixed" = true) (k22 : PySem.W.keepIn K (.ref f22) = true)
    (a23 : PySem.W.nsIn K mainGlobals "_law_area" = some (some (.ref f23))) (l23 : K.lookup f23 = some ⟨oc23, od23, .func (PySem.W.fnOf "_law_area" "_law_area" (defArgs s__law_area) (defBody s__law_area) (defScope s__law_area) .none kV23 dc23 pm23 an23 cd23 ct23), sl23⟩) (c23 : PySem.W.codeIn K cd23 "_law_area" = true) (k23 : PySem.W.keepIn K (.ref f23) = true)
    (a24 : PySem.W.nsIn K mainGlobals "_law_is_lined" = some (some (.ref f24))) (l24 : K.lookup f24 = some ⟨oc24, od24, .func (PySem.W.fnOf "_law_is_lined" "_law_is_lined" (defArgs s__law_is_lined) (defBody s__law_is_lined) (defScope s__law_is_lined) .none kV24 dc24 pm24 an24 cd24 ct24), sl24⟩) (c24 : PySem.W.codeIn K cd24 "_law_is_lined" = true) (k24 : PySem.W.keepIn K (.ref f24) = true)
    (a25 : PySem.W.nsIn K mainGlobals "_law_free_dots" = some (some (.ref f25))) (l25 : K.lookup f25 = some ⟨oc25, od25, .func (PySem.W.fnOf "_law_free_dots" "_law_free_dots" (defArgs s__law_free_dots) (defBody s__law_free_dots) (defScope s__law_free_dots) .none kV25 dc25 pm25 an25 cd25 ct25), sl25⟩) (c25 : PySem.W.codeIn K cd25 "_law_free_dots" = true) (k25 : PySem.W.keepIn K (.ref f25) = true)
    (a26 : PySem.W.nsIn K mainGlobals "_law_two" = some (some (.ref f26))) (l26 : K.lookup f26 = some ⟨oc26, od26, .func (PySem.W.fnOf "_law_two" "_law_two" (defArgs s__law_two) (defBody s__law_two) (defScope s__law_two) .none kV26 dc26 pm26 an26 cd26 ct26), sl26⟩) (c26 : PySem.W.codeIn K cd26 "_law_two" = true) (k26 : PySem.W.keepIn K (.ref f26) = true)
    (a27 : PySem.W.nsIn K mainGlobals "_law_orders" = some (some (.ref f27))) (l27 : K.lookup f27 = some ⟨oc27, od27, .func (PySem.W.fnOf "_law_orders" "_law_orders" (defArgs s__law_orders) (defBody s__law_orders) (defScope s__law_orders) .none kV27 dc27 pm27 an27 cd27 ct27), sl27⟩) (c27 : PySem.W.codeIn K cd27 "_law_orders" = true) (k27 : PySem.W.keepIn K (.ref f27) = true)
    (a28 : PySem.W.nsIn K mainGlobals "_law_turn" = some (some (.ref f28))) (l28 : K.lookup f28 = some ⟨oc28, od28, .func (PySem.W.fnOf "_law_turn" "_law_turn" (defArgs s__law_turn) (defBody s__law_turn) (defScope s__law_turn) .none kV28 dc28 pm28 an28 cd28 ct28), sl28⟩) (c28 : PySem.W.codeIn K cd28 "_law_turn" = true) (k28 : PySem.W.keepIn K (.ref f28) = true)
    (a29 : PySem.W.nsIn K mainGlobals "_law_do_cross" = some (some (.ref f29))) (l29 : K.lookup f29 = some ⟨oc29, od29, .func (PySem.W.fnOf "_law_do_cross" "_law_do_cross" (defArgs s__law_do_cross) (defBody s__law_do_cross) (defScope s__law_do_cross) .none kV29 dc29 pm29 an29 cd29 ct29), sl29⟩) (c29 : PySem.W.codeIn K cd29 "_law_do_cross" = true) (k29 : PySem.W.keepIn K (.ref f29) = true)
    (a30 : PySem.W.nsIn K mainGlobals "_law_are_pairs" = some (some (.ref f30))) (l30 : K.lookup f30 = some ⟨oc30, od30, .func (PySem.W.fnOf "_law_are_pairs" "_law_are_pairs" (defArgs s__law_are_pairs) (defBody s__law_are_pairs) (defScope s__law_are_pairs) .none kV30 dc30 pm30 an30 cd30 ct30), sl30⟩) (c30 : PySem.W.codeIn K cd30 "_law_are_pairs" = true) (k30 : PySem.W.keepIn K (.ref f30) = true)
    (a31 : PySem.W.nsIn K mainGlobals "mirrored" = some (some (.ref f31))) (l31 : K.lookup f31 = some ⟨oc31, od31, .func (PySem.W.fnOf "mirrored" "mirrored" (defArgs s_mirrored) (defBody s_mirrored) (defScope s_mirrored) .none kV31 dc31 pm31 an31 cd31 ct31), sl31⟩) (c31 : PySem.W.codeIn K cd31 "mirrored" = true) (k31 : PySem.W.keepIn K (.ref f31) = true)
    (a32 : PySem.W.nsIn K mainGlobals "check_dots" = some (some (.ref f32))) (l32 : K.lookup f32 = some ⟨oc32, od32, .func (PySem.W.fnOf "check_dots" "check_dots" (defArgs s_check_dots) (defBody s_check_dots) (defScope s_check_dots) .none kV32 dc32 pm32 an32 cd32 ct32), sl32⟩) (c32 : PySem.W.codeIn K cd32 "check_dots" = true) (k32 : PySem.W.keepIn K (.ref f32) = true)
    (a33 : PySem.W.nsIn K mainGlobals "near_enough" = some (some (.ref f33))) (l33 : K.lookup f33 = some ⟨oc33, od33, .func (PySem.W.fnOf "near_enough" "near_enough" (defArgs s_near_enough) (defBody s_near_enough) (defScope s_near_enough) .none kV33 dc33 pm33 an33 cd33 ct33), sl33⟩) (c33 : PySem.W.codeIn K cd33 "near_enough" = true) (k33 : PySem.W.keepIn K (.ref f33) = true)
    (a34 : PySem.W.nsIn K mainGlobals "moved" = some (some (.ref f34))) (l34 : K.lookup f34 = some ⟨oc34, od34, .func (PySem.W.fnOf "moved" "moved" (defArgs s_moved) (defBody s_moved) (defScope s_moved) .none kV34 dc34 pm34 an34 cd34 ct34), sl34⟩) (c34 : PySem.W.codeIn K cd34 "moved" = true) (k34 : PySem.W.keepIn K (.ref f34) = true)
    (a35 : PySem.W.nsIn K mainGlobals "_law_is_right" = some (some (.ref f35))) (l35 : K.lookup f35 = some ⟨oc35, od35, .func (PySem.W.fnOf "_law_is_right" "_law_is_right" (defArgs s__law_is_right) (defBody s__law_is_right) (defScope s__law_is_right) .none kV35 dc35 pm35 an35 cd35 ct35), sl35⟩) (c35 : PySem.W.codeIn K cd35 "_law_is_right" = true) (k35 : PySem.W.keepIn K (.ref f35) = true)
    (a36 : PySem.W.nsIn K mainGlobals "law" = some (some (.ref f36))) (l36 : K.lookup f36 = some ⟨oc36, od36, .func (PySem.W.fnOf "law" "law" (defArgs s_law) (defBody s_law) (defScope s_law) .none kV36 dc36 pm36 an36 cd36 ct36), sl36⟩) (c36 : PySem.W.codeIn K cd36 "law" = true) (k36 : PySem.W.keepIn K (.ref f36) = true)
    {t0 : Tok} (m0 : PySem.W.nsIn K mainGlobals "MOST_PLACE" = some (some (.int 10000 t0)))
    {t1 : Tok} (m1 : PySem.W.nsIn K mainGlobals "LEAST_CROWD" = some (some (.int 3 t1)))
    {t2 : Tok} (m2 : PySem.W.nsIn K mainGlobals "MOST_CROWD" = some (some (.int 12 t2)))
    {t3 : Tok} (m3 : PySem.W.nsIn K mainGlobals "MOST_PAIRED" = some (some (.int 6 t3)))
    (z0 : PySem.W.nsIn K mainGlobals "abs" = some none)
    (z1 : PySem.W.nsIn K mainGlobals "int" = some none)
    (z2 : PySem.W.nsIn K mainGlobals "len" = some none)
    (z3 : PySem.W.nsIn K mainGlobals "isinstance" = some none)
    (z4 : PySem.W.nsIn K mainGlobals "bool" = some none)
    (z5 : PySem.W.nsIn K mainGlobals "all" = some none)
    (z6 : PySem.W.nsIn K mainGlobals "tuple" = some none)
    (z7 : PySem.W.nsIn K mainGlobals "enumerate" = some none)
    (z8 : PySem.W.nsIn K mainGlobals "any" = some none)
    (z9 : PySem.W.nsIn K mainGlobals "range" = some none)
    (z10 : PySem.W.nsIn K mainGlobals "min" = some none)
    (z11 : PySem.W.nsIn K mainGlobals "max" = some none)
    (z12 : PySem.W.nsIn K mainGlobals "list" = some none)
    (z13 : PySem.W.nsIn K mainGlobals "zip" = some none)
    (z14 : PySem.W.nsIn K mainGlobals "set" = some none)
    (z15 : PySem.W.nsIn K mainGlobals "repr" = some none)
    : ∃ fd : FuncData, (∀ (s : Shared) (v : Value), BindsTo s fd ⟨[v], []⟩ [("script", v)]) ∧ ∀ base : Heap, K.In base → base.Ns mainGlobals mg → FnG l.prog w K mg base CX0 9 fa fd ["script"] (spOf K 1 lawSpec) := by
  have e := hfa.symm.trans (PySem.W.mg_of X G a36)
  cases e
  have F0 := fun_mk (st := s__law_hand) l0 c0 k0
  have b0 := F0.binds (ps := ["script"]) fun _ _ _ _ _ _ us hl => match us, hl with | [_], _ => rfl
  have F1 := fun_mk (st := s_is_integer) l1 c1 k1
  have b1 := F1.binds (ps := ["thing"]) fun _ _ _ _ _ _ us hl => match us, hl with | [_], _ => rfl
  have F2 := fun_mk (st := s_is_within) l2 c2 k2
  have b2 := F2.binds (ps := ["thing", "low", "high"]) fun _ _ _ _ _ _ us hl => match us, hl with | [_, _, _], _ => rfl
  have F3 := fun_mk (st := s_is_dot) l3 c3 k3
  have b3 := F3.binds (ps := ["thing"]) fun _ _ _ _ _ _ us hl => match us, hl with | [_], _ => rfl
  have F4 := fun_mk (st := s_is_crowd) l4 c4 k4
  have b4 := F4.binds (ps := ["thing"]) fun _ _ _ _ _ _ us hl => match us, hl with | [_], _ => rfl
  have F5 := fun_mk (st := s_check_crowd) l5 c5 k5
  have b5 := F5.binds (ps := ["thing"]) fun _ _ _ _ _ _ us hl => match us, hl with | [_], _ => rfl
  have F6 := fun_mk (st := s_side_of) l6 c6 k6
  have b6 := F6.binds (ps := ["number"]) fun _ _ _ _ _ _ us hl => match us, hl with | [_], _ => rfl
  have F7 := fun_mk (st := s_raw_area) l7 c7 k7
  have b7 := F7.binds (ps := ["a", "b", "c"]) fun _ _ _ _ _ _ us hl => match us, hl with | [_, _, _], _ => rfl
  have F8 := fun_mk (st := s_raw_turn) l8 c8 k8
  have b8 := F8.binds (ps := ["a", "b", "c"]) fun _ _ _ _ _ _ us hl => match us, hl with | [_, _, _], _ => rfl
  have F9 := fun_mk (st := s_is_joined_free) l9 c9 k9
  have b9 := F9.binds (ps := ["dots"]) fun _ _ _ _ _ _ us hl => match us, hl with | [_], _ => rfl
  have F10 := fun_mk (st := s_check_paired) l10 c10 k10
  have b10 := F10.binds (ps := ["red", "blue"]) fun _ _ _ _ _ _ us hl => match us, hl with | [_, _], _ => rfl
  have F11 := fun_mk (st := s_all_orders) l11 c11 k11
  have b11 := F11.binds (ps := ["many"]) fun _ _ _ _ _ _ us hl => match us, hl with | [_], _ => rfl
  have F12 := fun_mk (st := s_lies_between) l12 c12 k12
  have b12 := F12.binds (ps := ["a", "b", "c"]) fun _ _ _ _ _ _ us hl => match us, hl with | [_, _, _], _ => rfl
  have F13 := fun_mk (st := s_ways_meet) l13 c13 k13
  have b13 := F13.binds (ps := ["a", "b", "c", "d"]) fun _ _ _ _ _ _ us hl => match us, hl with | [_, _, _, _], _ => rfl
  have F14 := fun_mk (st := s_never_cross) l14 c14 k14
  have b14 := F14.binds (ps := ["red", "blue", "names"]) fun _ _ _ _ _ _ us hl => match us, hl with | [_, _, _], _ => rfl
  have F15 := fun_mk (st := s_all_pairs) l15 c15 k15
  have b15 := F15.binds (ps := ["red", "blue"]) fun _ _ _ _ _ _ us hl => match us, hl with | [_, _], _ => rfl
  have F16 := fun_mk (st := s_pairs_shown) l16 c16 k16
  have b16 := F16.binds (ps := ["red", "blue"]) fun _ _ _ _ _ _ us hl => match us, hl with | [_, _], _ => rfl
  have F17 := fun_mk (st := s_pairs_many) l17 c17 k17
  have b17 := F17.binds (ps := ["red", "blue"]) fun _ _ _ _ _ _ us hl => match us, hl with | [_, _], _ => rfl
  have F18 := fun_mk (st := s__law_same) l18 c18 k18
  have b18 := F18.binds (ps := ["one", "due"]) fun _ _ _ _ _ _ us hl => match us, hl with | [_, _], _ => rfl
  have F19 := fun_mk (st := s__law_draw) l19 c19 k19
  have b19 := F19.binds (ps := ["hand", "many"]) fun _ _ _ _ _ _ us hl => match us, hl with | [_, _], _ => rfl
  have F20 := fun_mk (st := s__law_any) l20 c20 k20
  have b20 := F20.binds (ps := ["hand", "some"]) fun _ _ _ _ _ _ us hl => match us, hl with | [_, _], _ => rfl
  have F21 := fun_mk (st := s__law_drawn) l21 c21 k21
  have b21 := F21.binds (ps := ["hand", "wide"]) fun _ _ _ _ _ _ us hl => match us, hl with | [_, _], _ => rfl
  have F22 := fun_mk (st := s__law_mixed) l22 c22 k22
  have b22 := F22.binds (ps := ["hand", "things"]) fun _ _ _ _ _ _ us hl => match us, hl with | [_, _], _ => rfl
  have F23 := fun_mk (st := s__law_area) l23 c23 k23
  have b23 := F23.binds (ps := ["a", "b", "c"]) fun _ _ _ _ _ _ us hl => match us, hl with | [_, _, _], _ => rfl
  have F24 := fun_mk (st := s__law_is_lined) l24 c24 k24
  have b24 := F24.binds (ps := ["some", "a", "c"]) fun _ _ _ _ _ _ us hl => match us, hl with | [_, _, _], _ => rfl
  have F25 := fun_mk (st := s__law_free_dots) l25 c25 k25
  have b25 := F25.binds (ps := ["hand", "many"]) fun _ _ _ _ _ _ us hl => match us, hl with | [_, _], _ => rfl
  have F26 := fun_mk (st := s__law_two) l26 c26 k26
  have b26 := F26.binds (ps := ["hand", "sizes"]) fun _ _ _ _ _ _ us hl => match us, hl with | [_, _], _ => rfl
  have F27 := fun_mk (st := s__law_orders) l27 c27 k27
  have b27 := F27.binds (ps := ["many"]) fun _ _ _ _ _ _ us hl => match us, hl with | [_], _ => rfl
  have F28 := fun_mk (st := s__law_turn) l28 c28 k28
  have b28 := F28.binds (ps := ["a", "b", "c"]) fun _ _ _ _ _ _ us hl => match us, hl with | [_, _, _], _ => rfl
  have F29 := fun_mk (st := s__law_do_cross) l29 c29 k29
  have b29 := F29.binds (ps := ["a", "b", "c", "d"]) fun _ _ _ _ _ _ us hl => match us, hl with | [_, _, _, _], _ => rfl
  have F30 := fun_mk (st := s__law_are_pairs) l30 c30 k30
  have b30 := F30.binds (ps := ["red", "blue", "row"]) fun _ _ _ _ _ _ us hl => match us, hl with | [_, _, _], _ => rfl
  have F31 := fun_mk (st := s_mirrored) l31 c31 k31
  have b31 := F31.binds (ps := ["crowd"]) fun _ _ _ _ _ _ us hl => match us, hl with | [_], _ => rfl
  have F32 := fun_mk (st := s_check_dots) l32 c32 k32
  have b32 := F32.binds (ps := ["some"]) fun _ _ _ _ _ _ us hl => match us, hl with | [_], _ => rfl
  have F33 := fun_mk (st := s_near_enough) l33 c33 k33
  have b33 := F33.binds (ps := ["crowd"]) fun _ _ _ _ _ _ us hl => match us, hl with | [_], _ => rfl
  have F34 := fun_mk (st := s_moved) l34 c34 k34
  have b34 := F34.binds (ps := ["crowd", "by"]) fun _ _ _ _ _ _ us hl => match us, hl with | [_, _], _ => rfl
  have F35 := fun_mk (st := s__law_is_right) l35 c35 k35
  have b35 := F35.binds (ps := ["hand", "red", "blue"]) fun _ _ _ _ _ _ us hl => match us, hl with | [_, _, _], _ => rfl
  have F36 := fun_mk (st := s_law) l36 c36 k36
  have b36 := F36.binds (ps := ["script"]) fun _ _ _ _ _ _ us hl => match us, hl with | [_], _ => rfl
  exact ⟨_, fun s v => .of_eq rfl, fun base _ _ => ok_law { f__law_hand := f0, d__law_hand := _, F__law_hand := F0, g__law_hand := PySem.W.mg_of X G a0, b__law_hand := b0, f_is_integer := f1, d_is_integer := _, F_is_integer := F1, g_is_integer := PySem.W.mg_of X G a1, b_is_integer := b1, f_is_within := f2, d_is_within := _, F_is_within := F2, g_is_within := PySem.W.mg_of X G a2, b_is_within := b2, f_is_dot := f3, d_is_dot := _, F_is_dot := F3, g_is_dot := PySem.W.mg_of X G a3, b_is_dot := b3, f_is_crowd := f4, d_is_crowd := _, F_is_crowd := F4, g_is_crowd := PySem.W.mg_of X G a4, b_is_crowd := b4, f_check_crowd := f5, d_check_crowd := _, F_check_crowd := F5, g_check_crowd := PySem.W.mg_of X G a5, b_check_crowd := b5, f_side_of := f6, d_side_of := _, F_side_of := F6, g_side_of := PySem.W.mg_of X G a6, b_side_of := b6, f_raw_area := f7, d_raw_area := _, F_raw_area := F7, g_raw_area := PySem.W.mg_of X G a7, b_raw_area := b7, f_raw_turn := f8, d_raw_turn := _, F_raw_turn := F8, g_raw_turn := PySem.W.mg_of X G a8, b_raw_turn := b8, f_is_joined_free := f9, d_is_joined_free := _, F_is_joined_free := F9, g_is_joined_free := PySem.W.mg_of X G a9, b_is_joined_free := b9, f_check_paired := f10, d_check_paired := _, F_check_paired := F10, g_check_paired := PySem.W.mg_of X G a10, b_check_paired := b10, f_all_orders := f11, d_all_orders := _, F_all_orders := F11, g_all_orders := PySem.W.mg_of X G a11, b_all_orders := b11, f_lies_between := f12, d_lies_between := _, F_lies_between := F12, g_lies_between := PySem.W.mg_of X G a12, b_lies_between := b12, f_ways_meet := f13, d_ways_meet := _, F_ways_meet := F13, g_ways_meet := PySem.W.mg_of X G a13, b_ways_meet := b13, f_never_cross := f14, d_never_cross := _, F_never_cross := F14, g_never_cross := PySem.W.mg_of X G a14, b_never_cross := b14, f_all_pairs := f15, d_all_pairs := _, F_all_pairs := F15, g_all_pairs := PySem.W.mg_of X G a15, b_all_pairs := b15, f_pairs_shown := f16, d_pairs_shown := _, F_pairs_shown := F16, g_pairs_shown := PySem.W.mg_of X G a16, b_pairs_shown := b16, f_pairs_many := f17, d_pairs_many := _, F_pairs_many := F17, g_pairs_many := PySem.W.mg_of X G a17, b_pairs_many := b17, f__law_same := f18, d__law_same := _, F__law_same := F18, g__law_same := PySem.W.mg_of X G a18, b__law_same := b18, f__law_draw := f19, d__law_draw := _, F__law_draw := F19, g__law_draw := PySem.W.mg_of X G a19, b__law_draw := b19, f__law_any := f20, d__law_any := _, F__law_any := F20, g__law_any := PySem.W.mg_of X G a20, b__law_any := b20, f__law_drawn := f21, d__law_drawn := _, F__law_drawn := F21, g__law_drawn := PySem.W.mg_of X G a21, b__law_drawn := b21, f__law_mixed := f22, d__law_mixed := _, F__law_mixed := F22, g__law_mixed := PySem.W.mg_of X G a22, b__law_mixed := b22, f__law_area := f23, d__law_area := _, F__law_area := F23, g__law_area := PySem.W.mg_of X G a23, b__law_area := b23, f__law_is_lined := f24, d__law_is_lined := _, F__law_is_lined := F24, g__law_is_lined := PySem.W.mg_of X G a24, b__law_is_lined := b24, f__law_free_dots := f25, d__law_free_dots := _, F__law_free_dots := F25, g__law_free_dots := PySem.W.mg_of X G a25, b__law_free_dots := b25, f__law_two := f26, d__law_two := _, F__law_two := F26, g__law_two := PySem.W.mg_of X G a26, b__law_two := b26, f__law_orders := f27, d__law_orders := _, F__law_orders := F27, g__law_orders := PySem.W.mg_of X G a27, b__law_orders := b27, f__law_turn := f28, d__law_turn := _, F__law_turn := F28, g__law_turn := PySem.W.mg_of X G a28, b__law_turn := b28, f__law_do_cross := f29, d__law_do_cross := _, F__law_do_cross := F29, g__law_do_cross := PySem.W.mg_of X G a29, b__law_do_cross := b29, f__law_are_pairs := f30, d__law_are_pairs := _, F__law_are_pairs := F30, g__law_are_pairs := PySem.W.mg_of X G a30, b__law_are_pairs := b30, f_mirrored := f31, d_mirrored := _, F_mirrored := F31, g_mirrored := PySem.W.mg_of X G a31, b_mirrored := b31, f_check_dots := f32, d_check_dots := _, F_check_dots := F32, g_check_dots := PySem.W.mg_of X G a32, b_check_dots := b32, f_near_enough := f33, d_near_enough := _, F_near_enough := F33, g_near_enough := PySem.W.mg_of X G a33, b_near_enough := b33, f_moved := f34, d_moved := _, F_moved := F34, g_moved := PySem.W.mg_of X G a34, b_moved := b34, f__law_is_right := f35, d__law_is_right := _, F__law_is_right := F35, g__law_is_right := PySem.W.mg_of X G a35, b__law_is_right := b35, f_law := fa, d_law := _, F_law := F36, g_law := PySem.W.mg_of X G a36, b_law := b36, t_MOST_PLACE := t0, m_MOST_PLACE := PySem.W.mg_of X G m0, t_LEAST_CROWD := t1, m_LEAST_CROWD := PySem.W.mg_of X G m1, t_MOST_CROWD := t2, m_MOST_CROWD := PySem.W.mg_of X G m2, t_MOST_PAIRED := t3, m_MOST_PAIRED := PySem.W.mg_of X G m3, z_abs := PySem.W.mg_none_of X G z0, z_int := PySem.W.mg_none_of X G z1, z_len := PySem.W.mg_none_of X G z2, z_isinstance := PySem.W.mg_none_of X G z3, z_bool := PySem.W.mg_none_of X G z4, z_all := PySem.W.mg_none_of X G z5, z_tuple := PySem.W.mg_none_of X G z6, z_enumerate := PySem.W.mg_none_of X G z7, z_any := PySem.W.mg_none_of X G z8, z_range := PySem.W.mg_none_of X G z9, z_min := PySem.W.mg_none_of X G z10, z_max := PySem.W.mg_none_of X G z11, z_list := PySem.W.mg_none_of X G z12, z_zip := PySem.W.mg_none_of X G z13, z_set := PySem.W.mg_none_of X G z14, z_repr := PySem.W.mg_none_of X G z15 }⟩
end Kd
end Dl
open PySem PySem.W PyProof.Rows
set_option maxHeartbeats 0 in
theorem PySem.Challenge.cw_dotcrowds_k49_whole_pairs_that_never_cro_holds : PySem.Challenge.rw_dotcrowds_k49_whole_pairs_that_never_cro.Holds := by
  w_on; o_law; k_head; (case hw => w_witness2)
  k_fill
  refine Dl.walkG (l := PySem.Challenge.rw_dotcrowds_k49_whole_pairs_that_never_cro) (k := 9) (x := "script") rfl rfl ⟨rfl, by decide, by decide⟩ (fun w h Y => PySem.W.kIn_of Y) ?F
  case F =>
    intro w mg fa h KX G hmg
    refine' Dl.Kd.all_mk KX G hmg ?a0 ?l0 ?c0 ?k0 ?a1 ?l1 ?c1 ?k1 ?a2 ?l2 ?c2 ?k2 ?a3 ?l3 ?c3 ?k3 ?a4 ?l4 ?c4 ?k4 ?a5 ?l5 ?c5 ?k5 ?a6 ?l6 ?c6 ?k6 ?a7 ?l7 ?c7 ?k7 ?a8 ?l8 ?c8 ?k8 ?a9 ?l9 ?c9 ?k9 ?a10 ?l10 ?c10 ?k10 ?a11 ?l11 ?c11 ?k11 ?a12 ?l12 ?c12 ?k12 ?a13 ?l13 ?c13 ?k13 ?a14 ?l14 ?c14 ?k14 ?a15 ?l15 ?c15 ?k15 ?a16 ?l16 ?c16 ?k16 ?a17 ?l17 ?c17 ?k17 ?a18 ?l18 ?c18 ?k18 ?a19 ?l19 ?c19 ?k19 ?a20 ?l20 ?c20 ?k20 ?a21 ?l21 ?c21 ?k21 ?a22 ?l22 ?c22 ?k22 ?a23 ?l23 ?c23 ?k23 ?a24 ?l24 ?c24 ?k24 ?a25 ?l25 ?c25 ?k25 ?a26 ?l26 ?c26 ?k26 ?a27 ?l27 ?c27 ?k27 ?a28 ?l28 ?c28 ?k28 ?a29 ?l29 ?c29 ?k29 ?a30 ?l30 ?c30 ?k30 ?a31 ?l31 ?c31 ?k31 ?a32 ?l32 ?c32 ?k32 ?a33 ?l33 ?c33 ?k33 ?a34 ?l34 ?c34 ?k34 ?a35 ?l35 ?c35 ?k35 ?a36 ?l36 ?c36 ?k36 ?m0 ?m1 ?m2 ?m3 ?z0 ?z1 ?z2 ?z3 ?z4 ?z5 ?z6 ?z7 ?z8 ?z9 ?z10 ?z11 ?z12 ?z13 ?z14 ?z15
    (case a0 => k_is)
    (case l0 => k_is)
    (case c0 => k_is)
    (case k0 => k_is)
    (case a1 => k_is)
    (case l1 => k_is)
    (case c1 => k_is)
    (case k1 => k_is)
    (case a2 => k_is)
    (case l2 => k_is)
    (case c2 => k_is)
    (case k2 => k_is)
    (case a3 => k_is)
    (case l3 => k_is)
    (case c3 => k_is)
    (case k3 => k_is)
    (case a4 => k_is)
    (case l4 => k_is)
    (case c4 => k_is)
    (case k4 => k_is)
    (case a5 => k_is)
    (case l5 => k_is)
    (case c5 => k_is)
    (case k5 => k_is)
    (case a6 => k_is)
    (case l6 => k_is)
    (case c6 => k_is)
    (case k6 => k_is)
    (case a7 => k_is)
    (case l7 => k_is)
    (case c7 => k_is)
    (case k7 => k_is)
    (case a8 => k_is)
    (case l8 => k_is)
    (case c8 => k_is)
    (case k8 => k_is)
    (case a9 => k_is)
    (case l9 => k_is)
    (case c9 => k_is)
    (case k9 => k_is)
    (case a10 => k_is)
    (case l10 => k_is)
    (case c10 => k_is)
    (case k10 => k_is)
    (case a11 => k_is)
    (case l11 => k_is)
    (case c11 => k_is)
    (case k11 => k_is)
    (case a12 => k_is)
    (case l12 => k_is)
    (case c12 => k_is)
    (case k12 => k_is)
    (case a13 => k_is)
    (case l13 => k_is)
    (case c13 => k_is)
    (case k13 => k_is)
    (case a14 => k_is)
    (case l14 => k_is)
    (case c14 => k_is)
    (case k14 => k_is)
    (case a15 => k_is)
    (case l15 => k_is)
    (case c15 => k_is)
    (case k15 => k_is)
    (case a16 => k_is)
    (case l16 => k_is)
    (case c16 => k_is)
    (case k16 => k_is)
    (case a17 => k_is)
    (case l17 => k_is)
    (case c17 => k_is)
    (case k17 => k_is)
    (case a18 => k_is)
    (case l18 => k_is)
    (case c18 => k_is)
    (case k18 => k_is)
    (case a19 => k_is)
    (case l19 => k_is)
    (case c19 => k_is)
    (case k19 => k_is)
    (case a20 => k_is)
    (case l20 => k_is)
    (case c20 => k_is)
    (case k20 => k_is)
    (case a21 => k_is)
    (case l21 => k_is)
    (case c21 => k_is)
    (case k21 => k_is)
    (case a22 => k_is)
    (case l22 => k_is)
    (case c22 => k_is)
    (case k22 => k_is)
    (case a23 => k_is)
    (case l23 => k_is)
    (case c23 => k_is)
    (case k23 => k_is)
    (case a24 => k_is)
    (case l24 => k_is)
    (case c24 => k_is)
    (case k24 => k_is)
    (case a25 => k_is)
    (case l25 => k_is)
    (case c25 => k_is)
    (case k25 => k_is)
    (case a26 => k_is)
    (case l26 => k_is)
    (case c26 => k_is)
    (case k26 => k_is)
    (case a27 => k_is)
    (case l27 => k_is)
    (case c27 => k_is)
    (case k27 => k_is)
    (case a28 => k_is)
    (case l28 => k_is)
    (case c28 => k_is)
    (case k28 => k_is)
    (case a29 => k_is)
    (case l29 => k_is)
    (case c29 => k_is)
    (case k29 => k_is)
    (case a30 => k_is)
    (case l30 => k_is)
    (case c30 => k_is)
    (case k30 => k_is)
    (case a31 => k_is)
    (case l31 => k_is)
    (case c31 => k_is)
    (case k31 => k_is)
    (case a32 => k_is)
    (case l32 => k_is)
    (case c32 => k_is)
    (case k32 => k_is)
    (case a33 => k_is)
    (case l33 => k_is)
    (case c33 => k_is)
    (case k33 => k_is)
    (case a34 => k_is)
    (case l34 => k_is)
    (case c34 => k_is)
    (case k34 => k_is)
    (case a35 => k_is)
    (case l35 => k_is)
    (case c35 => k_is)
    (case k35 => k_is)
    (case a36 => k_is)
    (case l36 => k_is)
    (case c36 => k_is)
    (case k36 => k_is)
    (case m0 => k_is)
    (case m1 => k_is)
    (case m2 => k_is)
    (case m3 => k_is)
    (case z0 => k_is)
    (case z1 => k_is)
    (case z2 => k_is)
    (case z3 => k_is)
    (case z4 => k_is)
    (case z5 => k_is)
    (case z6 => k_is)
    (case z7 => k_is)
    (case z8 => k_is)
    (case z9 => k_is)
    (case z10 => k_is)
    (case z11 => k_is)
    (case z12 => k_is)
    (case z13 => k_is)
    (case z14 => k_is)
    (case z15 => k_is)
