import PyProof.Rows.All
import Wide.All
import OpenK.AllK
import Wide.FinOn
import HandS.TupSets
import HandS.SetFor
import HandS.Set
import HandS.SortInts
import HandS.SortOrd
import HandS.Dict
import HandS.More
import PyProof.SeqIndex
import Open.SpecLaws
import KE.OsGo
import HandS.ForSpec
import HandS.ForMost
import HandS.IsInst
import HandS.Codes
import HandS.CallLocal
import HandS.FStr
import HandS.Walk
import HandS.NoneIn
import HandS.TupAny
import HandS.NamedTupSort
import HandS.Rev
import HandS.DictTup
import HandS.Conv
import HandS.Strs
import HandS.HeadHook1
import KE.KStateDown
import HandS.Head0
import HandS.Head1
import HandS.Head2
import KE.OsHead
import PySem.Challenge.RW_landeditions_s01_answers
/-! ### WR2 -/
section
set_option Elab.async false
set_option linter.all false
set_option maxRecDepth 100000
set_option maxHeartbeats 2000000
/-! a set's table laid clean: each of the slots 0 .. 2^k - 1 is met, so nothing is lost -/
namespace Wk
open PySem L2
def orbB (m : Nat) : Nat → Nat → Nat → Nat
  | 0, _, acc => acc
  | k + 1, i, acc => orbB m k ((i * 5 + 1) % (m + 1)) (acc ||| (1 <<< i))
theorem lcg_front (m : Nat) : ∀ k i, lcgI m ((i * 5 + 1) % (m + 1)) k = lcgI m i (k + 1)
  | 0, _ => rfl
  | k + 1, i => by
    show (lcgI m ((i * 5 + 1) % (m + 1)) k * 5 + 1) % (m + 1) = (lcgI m i (k + 1) * 5 + 1) % (m + 1)
    rw [lcg_front m k i]
theorem orb_get (m j : Nat) : ∀ k i acc, (orbB m k i acc).testBit j = true → acc.testBit j = true ∨ ∃ b, b < k ∧ lcgI m i b = j
  | 0, _, _, h => .inl h
  | k + 1, i, acc, h => by
    rcases orb_get m j k _ _ h with z | ⟨b, hb, e⟩
    · rw [Nat.testBit_or, Bool.or_eq_true] at z
      rcases z with z | z
      · exact .inl z
      · rw [Nat.one_shiftLeft, Nat.testBit_two_pow, decide_eq_true_eq] at z
        exact .inr ⟨0, Nat.succ_pos _, z⟩
    · exact .inr ⟨b + 1, Nat.succ_lt_succ hb, by rw [← lcg_front]; exact e⟩
structure MOk (m : Nat) : Prop where
  all : orbB m (m + 1) 0 0 = 2 ^ (m + 1) - 1
  rnd : lcgN m (m + 1) = 0
theorem m7 : MOk 7 := ⟨by decide +kernel, by decide +kernel⟩
theorem m15 : MOk 15 := ⟨by decide +kernel, by decide +kernel⟩
theorem m31 : MOk 31 := ⟨by decide +kernel, by decide +kernel⟩
theorem m63 : MOk 63 := ⟨by decide +kernel, by decide +kernel⟩
theorem m127 : MOk 127 := ⟨by decide +kernel, by decide +kernel⟩
theorem m255 : MOk 255 := ⟨by decide +kernel, by decide +kernel⟩
theorem m511 : MOk 511 := ⟨by decide +kernel, by decide +kernel⟩
theorem m1023 : MOk 1023 := ⟨by decide +kernel, by decide +kernel⟩
theorem m2047 : MOk 2047 := ⟨by decide +kernel, by decide +kernel⟩
theorem m4095 : MOk 4095 := ⟨by decide +kernel, by decide +kernel⟩
/-- the size above n, for n up to 4095: a power of two, more than n -/
theorem size_ok {n : Nat} (h : n < 4096) : MOk (SetTable.sizeAbove n - 1) ∧ n ≤ SetTable.sizeAbove n - 1 ∧ SetTable.sizeAbove n ≤ 4096 := by
  have go : ∀ f z, SetTable.sizeAbove.go n (f + 1) z = if z ≤ n then SetTable.sizeAbove.go n f (z * 2) else z := fun _ _ => rfl
  have e : SetTable.sizeAbove n = SetTable.sizeAbove.go n 64 8 := rfl
  rw [e, go 63 8]
  split
  case isFalse c => exact ⟨m7, by omega, by omega⟩
  rw [go 62 (8 * 2)]
  split
  case isFalse c => exact ⟨m15, by omega, by omega⟩
  rw [go 61 (8 * 2 * 2)]
  split
  case isFalse c => exact ⟨m31, by omega, by omega⟩
  rw [go 60 (8 * 2 * 2 * 2)]
  split
  case isFalse c => exact ⟨m63, by omega, by omega⟩
  rw [go 59 (8 * 2 * 2 * 2 * 2)]
  split
  case isFalse c => exact ⟨m127, by omega, by omega⟩
  rw [go 58 (8 * 2 * 2 * 2 * 2 * 2)]
  split
  case isFalse c => exact ⟨m255, by omega, by omega⟩
  rw [go 57 (8 * 2 * 2 * 2 * 2 * 2 * 2)]
  split
  case isFalse c => exact ⟨m511, by omega, by omega⟩
  rw [go 56 (8 * 2 * 2 * 2 * 2 * 2 * 2 * 2)]
  split
  case isFalse c => exact ⟨m1023, by omega, by omega⟩
  rw [go 55 (8 * 2 * 2 * 2 * 2 * 2 * 2 * 2 * 2)]
  split
  case isFalse c => exact ⟨m2047, by omega, by omega⟩
  rw [go 54 (8 * 2 * 2 * 2 * 2 * 2 * 2 * 2 * 2 * 2), if_neg (by omega)]
  exact ⟨m4095, by omega, by omega⟩
/-- from any slot each is met within a round -/
theorem lcg_meets {m : Nat} (hm : MOk m) {i j : Nat} (hi : i ≤ m) (hj : j ≤ m) : ∃ k, k ≤ m ∧ lcgI m i k = j := by
  have cov : ∀ x, x ≤ m → ∃ b, b ≤ m ∧ lcgN m b = x := fun x hx => by
    have q := orb_get m x (m + 1) 0 0 (by rw [hm.all, Nat.testBit_two_pow_sub_one, decide_eq_true_eq]; omega)
    rcases q with z | ⟨b, hb, e⟩
    · rw [Nat.zero_testBit] at z; cases z
    · refine ⟨b, by omega, ?_⟩
      have := lcgN_add m 0 b
      rw [Nat.zero_add] at this
      rw [← this]; exact e
  have rd : ∀ k, lcgN m (m + 1 + k) = lcgN m k := fun k => by
    have a := lcgN_add m (m + 1) k
    have b := lcgN_add m 0 k
    rw [hm.rnd] at a
    rw [Nat.zero_add] at b
    rw [← a, ← b]; rfl
  obtain ⟨a, ha, ea⟩ := cov i hi
  obtain ⟨b, hb, eb⟩ := cov j hj
  rw [← ea]
  by_cases c : a ≤ b
  · exact ⟨b - a, by omega, by rw [lcgN_add, show a + (b - a) = b by omega, eb]⟩
  · exact ⟨m + 1 + b - a, by omega, by rw [lcgN_add, show a + (m + 1 + b - a) = m + 1 + b by omega, rd, eb]⟩
theorem meets {m : Nat} (hm : MOk m) (h : Int) {j : Nat} (hj : j ≤ m) : ∃ n, n ≤ m + 12 ∧ runI m (SetTable.bits h) n = j := by
  obtain ⟨k, hk, e⟩ := lcg_meets hm (runI_le m (SetTable.bits h) 12) hj
  exact ⟨12 + k, by omega, by rw [runI_tail (bits_lt h), e]⟩
/-- a free slot is found where there's one at the start of a run -/
theorem free_some (m : Nat) (ow : Array (Option Nat)) : ∀ (f n i b : Nat), i ≤ m → n < f → oAt ow (itL m i b n).1 = none → ∃ j, SetTable.layClean.free m ow f i b = some j ∧ j ≤ m ∧ oAt ow j = none
  | 0, _, _, _, _, hn, _ => absurd hn (Nat.not_lt_zero _)
  | f + 1, n, i, b, hi, hn, ho => by
    rw [free_succ]
    have hb := runEnd_bd hi
    cases hf : (List.range (SetTable.runEnd m i + 1 - i)).find? fun k => (oAt ow (i + k)).isNone with
    | some k =>
      have h1 := List.find?_some hf
      have h2 := List.mem_range.mp (List.mem_of_find?_eq_some hf)
      exact ⟨i + k, rfl, by omega, Option.isNone_iff_eq_none.mp h1⟩
    | none =>
      cases n with
      | zero =>
        have q := List.find?_eq_none.mp hf 0 (List.mem_range.mpr (by omega))
        rw [Nat.add_zero] at q
        have ho' : oAt ow i = none := ho
        rw [ho'] at q
        exact absurd rfl q
      | succ n =>
        have l1 : (SetTable.leap m i b).1 ≤ m := Nat.le_of_lt_succ (Nat.mod_lt _ (Nat.succ_pos _))
        obtain ⟨j, e, r⟩ := free_some m ow f n _ _ l1 (by omega) ho
        exact ⟨j, e, r⟩
/-- who sits where, in a table laid clean -/
structure Sits (m n : Nat) (ow : Array (Option Nat)) : Prop where
  sz : ow.size = m + 1
  lt : ∀ j k, j ≤ m → oAt ow j = some k → k < n
  inj : ∀ i j k, i ≤ m → j ≤ m → oAt ow i = some k → oAt ow j = some k → i = j
  all : ∀ k, k < n → ∃ j, j ≤ m ∧ oAt ow j = some k
  few : ∃ ps : List Nat, ps.length = n ∧ ∀ j, j ≤ m → oAt ow j ≠ none → j ∈ ps
theorem Sits.init (m : Nat) : Sits m 0 (Array.replicate (m + 1) none) := by
  refine ⟨by simp, fun j k hj e => ?_, fun i j k hi hj e => ?_, fun k hk => absurd hk (Nat.not_lt_zero _), [], rfl, fun j hj e => absurd (oAt_init hj) e⟩
  · rw [oAt_init hj] at e; cases e
  · rw [oAt_init hi] at e; cases e
theorem Sits.next {m n : Nat} {ow : Array (Option Nat)} (W : Sits m n ow) (hm : MOk m) (hn : n ≤ m) (h : Int) : ∃ j, SetTable.layClean.free m ow (SetTable.turns m) (SetTable.bits h % (m + 1)) (SetTable.bits h) = some j ∧ Sits m (n + 1) (ow.setIfInBounds j (some n)) := by
  obtain ⟨ps, hl, hp⟩ := W.few
  obtain ⟨x, hx, hxn⟩ := st_missing ps (m + 1) (by omega)
  have fx : oAt ow x = none := by
    cases z : oAt ow x with
    | none => rfl
    | some k => exact absurd (hp x (by omega) (by rw [z]; exact fun e => nomatch e)) hxn
  obtain ⟨r, hr, er⟩ := meets hm h (show x ≤ m by omega)
  obtain ⟨j, e, hj, fj⟩ := free_some m ow (SetTable.turns m) r (SetTable.bits h % (m + 1)) (SetTable.bits h) (Nat.le_of_lt_succ (Nat.mod_lt _ (Nat.succ_pos _))) (by unfold SetTable.turns; omega) (by rw [itL_run]; show oAt ow (runI m (SetTable.bits h) r) = none; rw [er]; exact fx)
  have hjs : j < ow.size := by rw [W.sz]; omega
  have own := oAt_set_self (some n) hjs
  have oth : ∀ i, i ≠ j → oAt (ow.setIfInBounds j (some n)) i = oAt ow i := fun i hi => oAt_set_ne _ hi
  refine ⟨j, e, by rw [Array.size_setIfInBounds]; exact W.sz, fun i k hi ek => ?_, fun i i' k hi hi' ei ei' => ?_, fun k hk => ?_, j :: ps, by rw [List.length_cons, hl], fun i hi ei => ?_⟩
  · by_cases c : i = j
    · rw [c, own] at ek; cases ek; exact Nat.lt_succ_self _
    · rw [oth i c] at ek; exact Nat.lt_succ_of_lt (W.lt i k hi ek)
  · by_cases c : i = j
    · by_cases c' : i' = j
      · rw [c, c']
      · rw [c, own] at ei; cases ei
        rw [oth i' c'] at ei'
        exact absurd (W.lt i' n hi' ei') (Nat.lt_irrefl _)
    · rw [oth i c] at ei
      by_cases c' : i' = j
      · rw [c', own] at ei'; cases ei'
        exact absurd (W.lt i n hi ei) (Nat.lt_irrefl _)
      · rw [oth i' c'] at ei'
        exact W.inj i i' k hi hi' ei ei'
  · by_cases c : k = n
    · rw [c]; exact ⟨j, hj, own⟩
    · obtain ⟨i, hi, ei⟩ := W.all k (by omega)
      exact ⟨i, hi, by rw [oth i (fun z => by rw [z, fj] at ei; cases ei)]; exact ei⟩
  · by_cases c : i = j
    · rw [c]; exact List.mem_cons_self
    · rw [oth i c] at ei; exact List.mem_cons_of_mem _ (hp i hi ei)
theorem clean_fold {m : Nat} (hm : MOk m) : ∀ (hs : List Int) (n : Nat) (ow : Array (Option Nat)), Sits m n ow → n + hs.length ≤ m + 1 → ∃ ow', hs.foldl (stepF m) (some (ow, n)) = some (ow', n + hs.length) ∧ Sits m (n + hs.length) ow'
  | [], n, ow, W, _ => ⟨ow, rfl, W⟩
  | h :: r, n, ow, W, hl => by
    rw [List.length_cons] at hl
    obtain ⟨j, e, W'⟩ := W.next hm (by omega) h
    obtain ⟨ow', e', W2⟩ := clean_fold hm r (n + 1) _ W' (by omega)
    rw [show n + 1 + r.length = n + (h :: r).length by rw [List.length_cons]; omega] at e' W2
    exact ⟨ow', by rw [List.foldl_cons, stepF_some e]; exact e', W2⟩
/-- a table of ours laid clean has all, once -/
theorem laid_ok {m : Nat} (hm : MOk m) (fi mv : Nat) (ld pl : Bool) (hs : Array Int) (hn : hs.size ≤ m) : ∃ t order, SetTable.laid m fi mv ld pl hs = some (t, order) ∧ order.toList.Perm (List.range hs.size) ∧ Ris t.place.toList ∧ t.place.size = hs.size ∧ t.mask = m ∧ t.dummies = #[] ∧ t.led = ld ∧ t.plain = pl := by
  obtain ⟨ow, e, W⟩ := clean_fold hm hs.toList 0 _ (Sits.init m) (by rw [Array.length_toList]; omega)
  rw [Nat.zero_add, Array.length_toList] at e W
  have ec : SetTable.layClean m hs = some ow := by rw [layClean_eq, e]; rfl
  have el : SetTable.laid m fi mv ld pl hs = some ({ mask := m, place := ((liveOf m ow).map (·.1)).toArray, dummies := #[], finger := fi, led := ld, moves := mv, plain := pl }, ((liveOf m ow).map (·.2)).toArray) := by
    show (SetTable.layClean m hs).bind _ = _
    rw [ec]; rfl
  have ris := ris_live (fun j => ow.getD j none) (List.range (m + 1)) (by unfold Ris; exact List.pairwise_lt_range)
  have r1 : Ris ((liveOf m ow).map (·.1)) := ris.1
  have nd2 : ((liveOf m ow).map (·.2)).Nodup := by
    refine List.pairwise_map.mpr ((List.pairwise_map.mp r1).imp_of_mem fun {a b} ha hb hlt z => ?_)
    obtain ⟨a1, a2⟩ := (mem_live W.sz (j := a.1) (k := a.2)).1 ha
    obtain ⟨b1, b2⟩ := (mem_live W.sz (j := b.1) (k := b.2)).1 hb
    rw [z] at a2
    have := W.inj _ _ _ a1 b1 a2 b2
    omega
  have pm : ((liveOf m ow).map (·.2)).Perm (List.range hs.size) := by
    refine (List.perm_ext_iff_of_nodup nd2 List.nodup_range).mpr fun k => ⟨fun hk => ?_, fun hk => ?_⟩
    · obtain ⟨q, hq, eq⟩ := List.mem_map.mp hk
      obtain ⟨a1, a2⟩ := (mem_live W.sz (j := q.1) (k := q.2)).1 hq
      rw [← eq]; exact List.mem_range.mpr (W.lt _ _ a1 a2)
    · obtain ⟨j, a1, a2⟩ := W.all k (List.mem_range.mp hk)
      exact List.mem_map.mpr ⟨(j, k), (mem_live W.sz).2 ⟨a1, a2⟩, rfl⟩
  refine ⟨_, _, el, by simpa using pm, by simpa using r1, ?_, rfl, rfl, rfl, rfl⟩
  have := pm.length_eq
  rw [List.length_map, List.length_range] at this
  rw [List.size_toArray, List.length_map, this]
end Wk
end
/-! ### WR4 -/
section
set_option Elab.async false
set_option linter.all false
set_option maxRecDepth 100000
set_option maxHeartbeats 2000000
/-! sets of whole numbers: room, a set merged into another, what's taken from a dict -/
namespace Wk
open PySem PySem.Spec PyProof.Rows L2
theorem range_get {α : Type} (l : List α) : ∀ n, n ≤ l.length → (List.range n).filterMap (fun i => l[i]?) = l.take n
  | 0, _ => rfl
  | n + 1, h => by
    have hn : n < l.length := h
    rw [List.range_succ, List.filterMap_append, range_get l n (by omega), List.filterMap_cons_some (List.getElem?_eq_getElem hn), List.filterMap_nil, List.take_succ, List.getElem?_eq_getElem hn]
    rfl
theorem order_perm {es : Array (Int × Value)} {order : Array Nat} (h : order.toList.Perm (List.range es.size)) : (order.filterMap (es[·]?)).toList.Perm es.toList := by
  rw [Array.toList_filterMap]
  refine (h.filterMap _).trans ?_
  have e := range_get es.toList es.size (by rw [Array.length_toList]; exact Nat.le_refl _)
  rw [List.take_of_length_le (by rw [Array.length_toList]; exact Nat.le_refl _)] at e
  have f : (fun i : Nat => es[i]?) = fun i : Nat => es.toList[i]? := by
    funext i; rw [Array.getElem?_toList]
  show (List.filterMap (fun i : Nat => es[i]?) (List.range es.size)).Perm _
  rw [f, e]
/-- a table's form after a clean lay -/
structure Cln (t : SetTable) (n : Nat) : Prop where
  ris : Ris t.place.toList
  sz : t.place.size = n
  dm : t.dummies = #[]
  ok : MOk t.mask
  le : n ≤ t.mask
theorem Cln.fits {t : SetTable} {n : Nat} (c : Cln t n) : t.fits n = true := by
  unfold SetTable.fits SetTable.fill
  rw [c.dm, Bool.and_eq_true, beq_iff_eq, decide_eq_true_eq]
  refine ⟨c.sz, ?_⟩
  have := c.sz
  have := c.le
  show t.place.size + 0 ≤ t.mask
  omega
section
variable {P : Program} {w : World} {A : Around} {E : Value → Shared → Prop} {s : Shared} {a : Addr} {o : Obj} {es : Array (Int × Value)} {ep : Nat} {t : SetTable}
theorem relay_any (ho : s.heap.get? a = some o) (hd : o.data = .set es ep t) (hf : t.fits es.size = true) {wanted : Nat} (hw : wanted < 4096) (hn : es.size ≤ wanted) {Q : Unit → Shared → Prop}
    (hQ : ∀ es' t', es'.toList.Perm es.toList → Cln t' es'.size → wanted ≤ t'.mask → t'.led = t.led → t'.plain = t.plain → Q () { s with heap := s.heap.update a (Obj.putSet es' t') }) : wpAny (model P w) A (setRelay a wanted) Q E s := by
  obtain ⟨mk, wl, sl⟩ := size_ok hw
  obtain ⟨t', order, e, pm, r1, r2, r3, r4, r5, r6⟩ := laid_ok mk t.finger (t.movedTo (SetTable.sizeAbove wanted - 1)) t.led t.plain (es.map (·.1)) (by rw [Array.size_map]; omega)
  rw [Array.size_map] at pm r2
  have pe := order_perm pm
  have sz : (order.filterMap (es[·]?)).size = es.size := by rw [← Array.length_toList, pe.length_eq, Array.length_toList]
  have er : t.relaid (es.map (·.1)) wanted = some (t', order) := e
  rw [setRelay_eq]
  refine wpAny_bind (wpAny_setState_of ho hd hf ?_)
  dsimp only
  refine wp_if_neg (by rw [sizeLine_eq]; omega) ?_
  try refine wpAny_bind (wpAny_pure ?_)
  rw [er]
  dsimp only
  refine wpAny_bind ?_
  refine wp_if_neg (by rw [sz]; simp) ?_
  try refine wpAny_bind (wpAny_pure ?_)
  refine wpAny_pure ?_
  dsimp only
  refine wpAny_storeSet_of ho hd ?_ (by rw [sz, sizeLine_eq]; omega)
  exact hQ _ t' pe ⟨r1, by rw [sz]; exact r2, r4, by rw [r3]; exact mk, by rw [sz, r3]; omega⟩ (by rw [r3]; exact wl) r5 r6
/-- room for more in a set that's nothing in it yet -/
theorem room_E {more : Nat} (ho : s.heap.get? a = some o) (hex : o.ExactSet) (hd : o.data = .set #[] ep t) (hc : Cln t 0) (hm : more < 2040) {Q : Unit → Shared → Prop}
    (hQ : ∀ h' o' ep' t', Heap.SameBut a s.heap h' → h'.get? a = some o' → o'.ExactSet → o'.data = .set #[] ep' t' → Cln t' 0 → more ≤ t'.mask → t'.led = t.led → t'.plain = t.plain → Q () { s with heap := h' }) : wpAny (model P w) A (setRoomFor a more) Q E s := by
  have hf : t.fits (#[] : Array (Int × Value)).size = true := hc.fits
  unfold setRoomFor
  refine wpAny_bind (wpAny_setState_of ho hd hf ?_)
  dsimp only
  have fl : t.fill = 0 := by
    unfold SetTable.fill
    rw [hc.dm, hc.sz]; rfl
  unfold SetTable.roomFor
  rw [fl, hc.sz]
  by_cases c : (0 + more) * 5 ≥ t.mask * 3
  · rw [if_pos c]
    dsimp only
    refine relay_any ho hd hf (by omega) (Nat.zero_le _) fun es' t' pm cl hm' l1 l2 => ?_
    have e0 : es' = #[] := by
      have := pm.length_eq
      rw [Array.length_toList, Array.length_toList] at this
      exact Array.eq_empty_of_size_eq_zero this
    subst e0
    exact hQ _ _ (ep + 1) t' (Heap.SameBut.update ..) (store_at ho hd) ⟨hex.1, hex.2.1, hex.2.2⟩ rfl cl (by omega) l1 l2
  · rw [if_neg c]
    dsimp only
    exact wpAny_pure (hQ s.heap o ep t (Heap.SameBut.refl ..) ho hex hd hc (by omega) rfl rfl)
/-- .. and in one that has some -/
theorem room_R {S : Int → Bool} {n more : Nat} (R : SetR w s.heap a S n) (hm : n + more < 2040) {Q : Unit → Shared → Prop}
    (hQ : ∀ h', Heap.SameBut a s.heap h' → SetR w h' a S n → Q () { s with heap := h' }) : wpAny (model P w) A (setRoomFor a more) Q E s := by
  have R0 := R
  obtain ⟨o, es, ep, t, ho, hex, hd, g, nd, hmm, hb, hf, hn, hr, hl⟩ := R
  unfold setRoomFor
  refine wpAny_bind (wpAny_setState_of ho hd hf ?_)
  dsimp only
  have hsz : t.place.size = es.size := by
    have := hf
    unfold SetTable.fits at this
    rw [Bool.and_eq_true, beq_iff_eq] at this
    exact this.1
  unfold SetTable.roomFor
  by_cases c : (t.fill + more) * 5 ≥ t.mask * 3
  · rw [if_pos c]
    dsimp only
    refine relay_any ho hd hf (by omega) (by omega) fun es' t' pm cl hm' l1 l2 => ?_
    have sz : es'.size = es.size := by rw [← Array.length_toList, pm.length_eq, Array.length_toList]
    exact hQ _ (Heap.SameBut.update ..) ⟨_, es', ep + 1, t', store_at ho hd, ⟨hex.1, hex.2.1, hex.2.2⟩, rfl, fun e he => g e (pm.mem_iff.mp he), (pm.map keyOf).nodup_iff.mpr nd, fun k => (hmm k).trans (pm.map keyOf).mem_iff.symm, by rw [sz]; exact hb, cl.fits, by rw [sz]; exact hn, cl.ris, by rw [l1]; exact hl⟩
  · rw [if_neg c]
    dsimp only
    exact wpAny_pure (hQ s.heap (Heap.SameBut.refl ..) R0)
theorem merge_eq (r o : Addr) (each : Sem Unit) : setMerge r o each = (do
    if r == o then return
    let (eo, epoch, to) ← setState o
    if eo.isEmpty then return
    setRoomFor r eo.size
    let (_, _, ts) ← setState r
    match ts.road to with
    | .slotForSlot => storeSet r eo { to with finger := ts.finger, led := ts.led && to.led, moves := ts.moves, plain := ts.plain && to.plain }
    | .clean =>
      let (es, t) ← (do
        let some (t, order) := SetTable.laid ts.mask ts.finger ts.moves (ts.led && to.led) (ts.plain && to.plain) (eo.map (·.1)) | unsupported "internal:set-table-without-room"
        let es' := order.filterMap (eo[·]?)
        if es'.size != eo.size then unsupported "internal:set-table-lost-an-element"
        pure (es', t) : Sem (Array (Int × Value) × SetTable))
      storeSet r es t
    | .oneByOne =>
      for (h, x) in ← setWalkUnseen o [r] (some r) do
        let _ ← holding [x] (setAddHashed r x h)
        each
        if (← setState o).2.1 != epoch then unsupported "set.changed-during-merge") := by rfl
theorem led_and {w : World} {x y : Bool} (hx : w.params.followText "set-order" = true ∨ x = true) (hy : w.params.followText "set-order" = true ∨ y = true) : w.params.followText "set-order" = true ∨ (x && y) = true := by
  rcases hx with h | h
  · exact .inl h
  · rcases hy with k | k
    · exact .inl k
    · right; rw [h, k]; rfl
/-- a set merged into one that's empty -/
theorem merge_E {r b : Addr} (ho : s.heap.get? r = some o) (hex : o.ExactSet) (hd : o.data = .set #[] ep t) (hc : Cln t 0) (hl : w.params.followText "set-order" = true ∨ t.led = true) {S : Int → Bool} {n : Nat} (R : SetR w s.heap b S n) (hne : r ≠ b) (hn : n < 2040) {each : Sem Unit} {Q : Unit → Shared → Prop}
    (h0 : n = 0 → Q () s) (h1 : 0 < n → ∀ h', Heap.SameBut r s.heap h' → SetR w h' r S n → Q () { s with heap := h' }) : wpAny (model P w) A (setMerge r b each) Q E s := by
  obtain ⟨o2, eo, ep2, to, ho2, hex2, hd2, g, nd, hm, hb, hf2, hn2, hr2, hl2⟩ := R
  rw [merge_eq]
  refine wp_if_neg (by simpa using hne) ?_
  try refine wpAny_bind (wpAny_pure ?_)
  refine wpAny_bind (wpAny_setState_of ho2 hd2 hf2 ?_)
  dsimp only
  by_cases c : eo.isEmpty = true
  · refine wp_if_pos c ?_
    rw [Array.isEmpty_iff_size_eq_zero] at c
    exact wpAny_pure (h0 (by omega))
  · refine wp_if_neg c ?_
    have hpos : 0 < eo.size := by
      rw [Array.isEmpty_iff_size_eq_zero] at c
      omega
    try refine wpAny_bind (wpAny_pure ?_)
    refine wpAny_bind (room_E ho hex hd hc (by omega) fun h' o' ep' t' sb ho' hex' hd' hc' hmask e1 e2 => ?_)
    refine wpAny_bind (wpAny_setState_of (s := { s with heap := h' }) ho' hd' hc'.fits ?_)
    dsimp only
    have fl : t'.fill = 0 := by
      unfold SetTable.fill
      rw [hc'.dm, hc'.sz]; rfl
    have hl' : w.params.followText "set-order" = true ∨ t'.led = true := by rw [e1]; exact hl
    have hz : eo.size ≤ sizeLine := by rw [sizeLine_eq]; omega
    unfold SetTable.road
    rw [fl]
    simp only [bne_self_eq_false, Bool.false_eq_true, if_false]
    by_cases c2 : (t'.mask == to.mask && to.dummies.isEmpty) = true
    · rw [if_pos c2]
      dsimp only
      refine wpAny_storeSet_of ho' hd' ?_ hz
      refine h1 (by omega) _ (sb.trans (Heap.SameBut.update ..)) ⟨_, eo, ep' + 1, _, store_at (h := h') ho' hd', ⟨hex'.1, hex'.2.1, hex'.2.2⟩, rfl, g, nd, hm, hb, ?_, hn2, hr2, led_and hl' hl2⟩
      exact hf2
    · rw [if_neg c2]
      dsimp only
      obtain ⟨t3, order, el, pm, r1, r2, r3, r4, r5, r6⟩ := laid_ok hc'.ok t'.finger t'.moves (t'.led && to.led) (t'.plain && to.plain) (eo.map (·.1)) (by rw [Array.size_map]; exact hmask)
      rw [Array.size_map] at pm r2
      have pe := order_perm pm
      have sz : (order.filterMap (eo[·]?)).size = eo.size := by rw [← Array.length_toList, pe.length_eq, Array.length_toList]
      rw [el]
      dsimp only
      refine wpAny_bind ?_
      refine wp_if_neg (by rw [sz]; simp) ?_
      try refine wpAny_bind (wpAny_pure ?_)
      refine wpAny_pure ?_
      dsimp only
      refine wpAny_storeSet_of ho' hd' ?_ (by rw [sz]; exact hz)
      have cl : Cln t3 (order.filterMap (eo[·]?)).size := ⟨r1, by rw [sz]; exact r2, r4, by rw [r3]; exact hc'.ok, by rw [sz, r3]; exact hmask⟩
      exact h1 (by omega) _ (sb.trans (Heap.SameBut.update ..)) ⟨_, order.filterMap (eo[·]?), ep' + 1, t3, store_at (h := h') ho' hd', ⟨hex'.1, hex'.2.1, hex'.2.2⟩, rfl, fun e he => g e (pe.mem_iff.mp he), (pe.map keyOf).nodup_iff.mpr nd, fun k => (hm k).trans (pe.map keyOf).mem_iff.symm, by rw [sz]; exact hb, cl.fits, by rw [sz]; exact hn2, r1, by rw [r5]; exact led_and hl' hl2⟩
theorem walk_eq (a : Addr) : setWalk a = (do
    let (es, epoch, t) ← setState a
    if ← setsByText then return pickOrder ((← ask).params.setOrder a epoch) es
    if (!t.plain && decide (es.size > 1)) = true then return (← drawOrder es.size es.toList).toArray
    (if (!t.led && decide (es.size > 1)) = true then unsupported "set:maker-not-led" else pure () : Sem Unit)
    return es) := by rfl
theorem walk_any (ho : s.heap.get? a = some o) (hd : o.data = .set es ep t) (hf : t.fits es.size = true) (hl : w.params.followText "set-order" = true ∨ t.led = true) {Q : Array (Int × Value) → Shared → Prop}
    (hQ : ∀ (xs : Array (Int × Value)) d, xs.toList.Perm es.toList → Q xs { s with drawn := d }) : wpAny (model P w) A (setWalk a) Q E s := by
  rw [walk_eq]
  refine wpAny_bind (wpAny_setState_of ho hd hf ?_)
  dsimp only
  refine wpAny_bind (wpAny_byText ?_)
  cases hb : w.params.followText "set-order" with
  | true =>
    simp only [if_true]
    refine wpAny_bind (wpAny_askSetting ?_)
    exact wpAny_pure (hQ _ s.drawn (pick_perm _ es))
  | false =>
    rw [hb] at hl
    have led := hl.resolve_left Bool.false_ne_true
    simp only [Bool.false_eq_true, if_false]
    try refine wpAny_bind (wpAny_pure ?_)
    by_cases c : (!t.plain && decide (es.size > 1)) = true
    · refine wp_if_pos c ?_
      refine wpAny_bind (drawOrder_at _ _ _ _ (by rw [Array.length_toList]; exact Nat.le_refl _) fun ys d hp => ?_)
      exact wpAny_pure (hQ ys.toArray d hp)
    · refine wp_if_neg c ?_
      try refine wpAny_bind (wpAny_pure ?_)
      refine wpAny_bind (wp_if_neg (by rw [led]; simp) (wpAny_pure ?_))
      exact wpAny_pure (hQ es s.drawn (List.Perm.refl _))
theorem quiet_two {a b : Addr} {o o2 : Obj} {es es2 : Array (Int × Value)} {ep ep2 : Nat} {t t2 : SetTable} (ho : s.heap.get? a = some o) (hd : o.data = .set es ep t) (hf : t.fits es.size = true) (g : ∀ e ∈ es.toList, GoodE e)
    (ho2 : s.heap.get? b = some o2) (hd2 : o2.data = .set es2 ep2 t2) (hf2 : t2.fits es2.size = true) (g2 : ∀ e ∈ es2.toList, GoodE e) {Q : Bool → Shared → Prop} (hQ : Q true s) : wpAny (model P w) A (setsQuiet [a, b]) Q E s := by
  have one : ∀ (es : Array (Int × Value)), (∀ e ∈ es.toList, GoodE e) → ∀ (f : Int × Value → Option Bool × Unit → Sem (ForInStep (Option Bool × Unit))), (∀ e k tk c, e.2 = Value.int k tk → f e c = pure (.yield (none, ()))) → ∀ (R : Option Bool × Unit → Shared → Prop), R (none, ()) s → wpAny (model P w) A (forIn es (none, ()) f) R E s := by
    intro es g f hfe R hR
    rw [← Array.forIn_toList]
    refine wpAny_forIn_list _ (fun rest r s' => r = (none, ()) ∧ s' = s ∧ ∀ e ∈ rest, GoodE e) _ ?_ ?_ _ _ ⟨rfl, rfl, g⟩
    · rintro e rest r s' ⟨rfl, rfl, hg⟩
      obtain ⟨k, tk, he, _⟩ := hg e List.mem_cons_self
      rw [hfe e k tk _ he]
      exact wpAny_pure ⟨rfl, rfl, fun x hx => hg x (List.mem_cons_of_mem _ hx)⟩
    · rintro r s' ⟨rfl, rfl, _⟩
      exact hR
  unfold setsQuiet
  refine wpAny_bind ?_
  refine wpAny_forIn_list _ (fun rest r s' => r = (none, ()) ∧ s' = s ∧ ∀ c ∈ rest, c = a ∨ c = b) _ ?_ ?_ _ _ ⟨rfl, rfl, fun c hc => by simpa using hc⟩
  · rintro c rest r s' ⟨rfl, rfl, hc⟩
    obtain ⟨es', o', ep', t', ho', hd', hf', g'⟩ : ∃ (es' : Array (Int × Value)) (o' : Obj) (ep' : Nat) (t' : SetTable), s'.heap.get? c = some o' ∧ o'.data = .set es' ep' t' ∧ t'.fits es'.size = true ∧ ∀ e ∈ es'.toList, GoodE e := by
      rcases hc c List.mem_cons_self with rfl | rfl
      · exact ⟨es, o, ep, t, ho, hd, hf, g⟩
      · exact ⟨es2, o2, ep2, t2, ho2, hd2, hf2, g2⟩
    refine wpAny_bind (wpAny_setEntries_of ho' hd' hf' (wpAny_bind (one es' g' _ (fun e k tk c he => ?_) _ ?_)))
    · obtain ⟨h, x⟩ := e
      simp only at he
      subst he
      rfl
    · exact wpAny_pure ⟨rfl, rfl, fun x hx => hc x (List.mem_cons_of_mem _ hx)⟩
  · rintro ⟨r1, r2⟩ s' ⟨hr, rfl, _⟩
    cases hr
    exact wpAny_pure hQ
/-- a set's items in some order, for another that takes them -/
theorem walkUnseen_R {r b : Addr} {S : Int → Bool} {n : Nat} (R1 : SetR w s.heap r S n) (ho : s.heap.get? b = some o) (hd : o.data = .set es ep t) (g : ∀ e ∈ es.toList, GoodE e) (hf : t.fits es.size = true) (hb : es.size < scanBound) (hl : w.params.followText "set-order" = true ∨ t.led = true) {Q : Array (Int × Value) → Shared → Prop}
    (hQ : ∀ (xs : Array (Int × Value)) h' d, Heap.SameBut r s.heap h' → SetR w h' r S n → xs.toList.Perm es.toList → Q xs { s with heap := h', drawn := d }) : wpAny (model P w) A (setWalkUnseen b [r] (some r)) Q E s := by
  have R0 := R1
  obtain ⟨o1, es1, ep1, t1, ho1, hex1, hd1, g1, nd1, hm1, hb1, hf1, hn1, hr1, hl1⟩ := R1
  have wk : ∀ Q' : Array (Int × Value) → Shared → Prop, (∀ xs s', Q xs s' → Q' xs s') → wpAny (model P w) A (setWalk b) Q' E s := fun Q' h => walk_any ho hd hf hl fun xs d pm => h _ _ (hQ xs s.heap d (Heap.SameBut.refl ..) R0 pm)
  unfold setWalkUnseen
  refine wpAny_bind (wpAny_setState_of ho hd hf ?_)
  dsimp only
  refine wpAny_bind (wpAny_byText ?_)
  by_cases c : ((w.params.followText "set-order" || (t.led && t.plain)) || decide (es.size ≤ 1)) = true
  · refine wp_if_pos c ?_
    exact wk _ fun xs s' h => h
  · refine wp_if_neg c ?_
    try refine wpAny_bind (wpAny_pure ?_)
    refine wpAny_bind (quiet_two ho hd hf g ho1 hd1 hf1 g1 ?_)
    simp only [Bool.not_true, Bool.false_eq_true, if_false]
    try refine wpAny_bind (wpAny_pure ?_)
    refine wpAny_bind (wpAny_rule ?_)
    try dsimp only
    refine wpAny_bind (wpAny_setState_of ho1 hd1 hf1 ?_)
    dsimp only
    have hbt : w.params.followText "set-order" = false := by
      cases z : w.params.followText "set-order" with
      | false => rfl
      | true => exact absurd (by rw [z]; rfl) c
    rw [hbt] at hl hl1
    have l1 := hl.resolve_left Bool.false_ne_true
    have l2 := hl1.resolve_left Bool.false_ne_true
    by_cases c2 : ((t1.led && !t.led) || (t1.plain && !t.plain)) = true
    · refine wp_if_pos c2 ?_
      refine wpAny_bind (wpAny_storeSet_of ho1 hd1 ?_ (fits_of_scanBound hb1))
      refine wpAny_pure (hQ es _ s.drawn (Heap.SameBut.update ..) ⟨_, es1, ep1 + 1, _, store_at ho1 hd1, ⟨hex1.1, hex1.2.1, hex1.2.2⟩, rfl, g1, nd1, hm1, hb1, ?_, hn1, hr1, ?_⟩ (List.Perm.refl _))
      · exact hf1
      · right; show (t1.led && t.led) = true; rw [l1, l2]; rfl
    · refine wp_if_neg c2 ?_
      try refine wpAny_bind (wpAny_pure ?_)
      exact wpAny_pure (hQ es s.heap s.drawn (Heap.SameBut.refl ..) R0 (List.Perm.refl _))
/-- a set merged into one that has some -/
theorem merge_R {r b : Addr} {S S2 : Int → Bool} {n n2 : Nat} (R1 : SetR w s.heap r S n) (hpos : 0 < n) (R2 : SetR w s.heap b S2 n2) (hne : r ≠ b) (hn : n + n2 < 2040) {each : Sem Unit} {Q : Unit → Shared → Prop}
    (hea : ∀ (s' : Shared) (Q' : Unit → Shared → Prop), s'.heap.get? b = s.heap.get? b → Q' () s' → wpAny (model P w) A each Q' E s')
    (hQ : ∀ h' d n', Heap.SameBut r s.heap h' → SetR w h' r (fun k => S k || S2 k) n' → n' ≤ n + n2 → Q () { s with heap := h', drawn := d }) : wpAny (model P w) A (setMerge r b each) Q E s := by
  have R20 := R2
  obtain ⟨o2, eo, ep2, to, ho2, hex2, hd2, g, nd, hm, hb, hf2, hn2, hr2, hl2⟩ := R2
  rw [merge_eq]
  refine wp_if_neg (by simpa using hne) ?_
  try refine wpAny_bind (wpAny_pure ?_)
  refine wpAny_bind (wpAny_setState_of ho2 hd2 hf2 ?_)
  dsimp only
  by_cases c : eo.isEmpty = true
  · refine wp_if_pos c ?_
    rw [Array.isEmpty_iff_size_eq_zero] at c
    refine wpAny_pure (hQ s.heap s.drawn n (Heap.SameBut.refl ..) (R1.congr fun k => ?_) (by omega))
    have z : S2 k = false := by
      cases q : S2 k with
      | false => rfl
      | true =>
        have := (hm k).1 q
        have e0 : eo.toList = [] := by
          have : eo = #[] := Array.eq_empty_of_size_eq_zero c
          rw [this]
        rw [e0] at this
        cases this
    rw [z, Bool.or_false]
  · refine wp_if_neg c ?_
    try refine wpAny_bind (wpAny_pure ?_)
    refine wpAny_bind (room_R R1 (by omega) fun h1 sb1 R1' => ?_)
    have R1a := R1'
    obtain ⟨o1, es1, ep1, t1, ho1, hex1, hd1, g1, nd1, hm1, hb1, hf1, hn1, hr1, hl1⟩ := R1'
    refine wpAny_bind (wpAny_setState_of (s := { s with heap := h1 }) ho1 hd1 hf1 ?_)
    dsimp only
    have fl : t1.fill ≠ 0 := by
      have := hf1
      unfold SetTable.fits at this
      rw [Bool.and_eq_true, beq_iff_eq] at this
      unfold SetTable.fill
      omega
    have rd : t1.road to = .oneByOne := by
      unfold SetTable.road
      rw [if_pos (by simpa using fl)]
    rw [rd]
    dsimp only
    have ho2' : h1.get? b = some o2 := (sb1.2 b (Ne.symm hne)).trans ho2
    refine wpAny_bind (walkUnseen_R (s := { s with heap := h1 }) R1a ho2' hd2 g hf2 hb hl2 fun xs h2 d sb2 R1b pm => ?_)
    refine wpAny_bind ?_
    rw [← Array.forIn_toList]
    refine wpAny_forIn_list _ (fun rest u s' => ∃ h' n' S', s' = { s with heap := h', drawn := d } ∧ Heap.SameBut r s.heap h' ∧ SetR w h' r S' n' ∧ n' + rest.length ≤ n + n2 ∧ (∀ e ∈ rest, GoodE e) ∧ ∀ k, (S' k = true ∨ k ∈ rest.map keyOf) ↔ (S k = true ∨ S2 k = true)) _ ?_ ?_ _ _
      ⟨h2, n, S, rfl, sb1.trans sb2, R1b, by rw [pm.length_eq, Array.length_toList]; omega, fun e he => g e (pm.mem_iff.mp he), fun k => by rw [(pm.map keyOf).mem_iff, ← hm k]⟩
    · rintro e rest u s' ⟨h', n', S', rfl, sb, R', hl', hg, hk⟩
      obtain ⟨k, tk, he, hh⟩ := hg e List.mem_cons_self
      obtain ⟨h0, x⟩ := e
      simp only at he hh
      subst he hh
      rw [List.length_cons] at hl'
      dsimp only
      refine wpAny_bind (wpAny_holding (setR_add_hashed (P := P) (s := { s with heap := h', drawn := d }) R' (by unfold scanBound; omega) fun h3 sb3 R3 => ?_))
      have sb' := sb.trans sb3
      have hob : h3.get? b = some o2 := (sb'.2 b (Ne.symm hne)).trans ho2
      refine wpAny_bind (hea _ _ (by rw [ho2]; exact hob) ?_)
      refine wpAny_bind (wpAny_setState_of (s := { s with heap := h3, drawn := d }) hob hd2 hf2 ?_)
      refine wp_if_neg (by simp) ?_
      try refine wpAny_bind (wpAny_pure ?_)
      refine wpAny_pure ⟨h3, _, _, rfl, sb', R3, ?_, fun e he => hg e (List.mem_cons_of_mem _ he), fun j => ?_⟩
      · split <;> omega
      · rw [← hk j, List.map_cons, List.mem_cons, Bool.or_eq_true, decide_eq_true_eq, or_assoc]
        exact Iff.rfl
    · rintro u s' ⟨h', n', S', rfl, sb, R', hl', hg, hk⟩
      refine wpAny_pure (hQ h' d n' sb (R'.congr fun k => ?_) (by simpa using hl'))
      have := hk k
      rw [List.map_nil] at this
      cases h1 : S' k <;> cases h2 : S k <;> cases h3 : S2 k <;> simp_all
/-- a set of ours: if it's empty, its table is clean -/
def Made (w : World) (h : Heap) (a : Addr) (S : Int → Bool) (n : Nat) : Prop := SetR w h a S n ∧ (n = 0 → ∃ o ep t, h.get? a = some o ∧ o.ExactSet ∧ o.data = .set #[] ep t ∧ Cln t 0 ∧ (w.params.followText "set-order" = true ∨ t.led = true))
theorem setR_none {h : Heap} {S : Int → Bool} (R : SetR w h a S 0) (k : Int) : S k = false := by
  obtain ⟨o, es, ep, t, ho, hex, hd, g, nd, hm, hb, hf, hn, _⟩ := R
  cases q : S k with
  | false => rfl
  | true =>
    have := (hm k).1 q
    have e0 : es = #[] := Array.eq_empty_of_size_eq_zero hn
    rw [e0] at this
    cases this
theorem merge_M {r b : Addr} {S S2 : Int → Bool} {n n2 : Nat} (R1 : Made w s.heap r S n) (R2 : SetR w s.heap b S2 n2) (hne : r ≠ b) (hn : n + n2 < 2040) {each : Sem Unit} {Q : Unit → Shared → Prop}
    (hea : ∀ (s' : Shared) (Q' : Unit → Shared → Prop), s'.heap.get? b = s.heap.get? b → Q' () s' → wpAny (model P w) A each Q' E s')
    (hQ : ∀ h' d n', Heap.SameBut r s.heap h' → SetR w h' r (fun k => S k || S2 k) n' → (n = 0 → n2 = 0 → h' = s.heap) → (n = 0 → n' = n2) → Q () { s with heap := h', drawn := d }) : wpAny (model P w) A (setMerge r b each) Q E s := by
  by_cases c : n = 0
  · subst c
    obtain ⟨o, ep, t, ho, hex, hd, hc, hl⟩ := R1.2 rfl
    refine merge_E ho hex hd hc hl R2 hne (by omega) (fun z => ?_) fun hp h' sb R' => ?_
    · subst z
      exact hQ s.heap s.drawn 0 (Heap.SameBut.refl ..) (R1.1.congr fun k => by rw [setR_none R2 k, Bool.or_false]) (fun _ _ => rfl) fun _ => rfl
    · exact hQ h' s.drawn n2 sb (R'.congr fun k => by rw [setR_none R1.1 k, Bool.false_or]) (fun _ z => by omega) fun _ => rfl
  · exact merge_R R1.1 (by omega) R2 hne hn hea fun h' d n' sb R' _ => hQ h' d n' sb R' (fun z => absurd z c) fun z => absurd z c
abbrev newO (w : World) : Obj := { cls := .type "set", dict := none, data := .set #[] 0 (.fresh 0 0 (!w.params.followText "set-order")) }
theorem fresh_cln (led : Bool) : Cln (.fresh 0 0 led) 0 := ⟨List.Pairwise.nil, rfl, rfl, m7, Nat.zero_le _⟩
theorem led_new (w : World) : w.params.followText "set-order" = true ∨ (SetTable.fresh 0 0 (!w.params.followText "set-order")).led = true := by
  show _ ∨ (!w.params.followText "set-order") = true
  cases w.params.followText "set-order"
  · exact .inr rfl
  · exact .inl rfl
theorem made_new {h : Heap} (ho : h.get? a = some (newO w)) : Made w h a (fun _ => false) 0 :=
  ⟨⟨_, #[], 0, _, ho, ⟨rfl, rfl, rfl⟩, rfl, fun e he => by simp at he, by simp, fun k => by simp, by decide, by rfl, rfl, List.Pairwise.nil, led_new w⟩, fun _ => ⟨_, 0, _, ho, ⟨rfl, rfl, rfl⟩, rfl, fresh_cln _, led_new w⟩⟩
/-- s.copy() at the library's level -/
theorem copy_R {b : Addr} {S : Int → Bool} {n : Nat} (R : SetR w s.heap b S n) (hn : n < 2040) {Q : Value → Shared → Prop}
    (hQ : ∀ h' d, (∀ c u, s.heap.get? c = some u → h'.get? c = some u) → Made w h' s.heap.objs.size S n → Q (.ref s.heap.objs.size) { s with heap := h', drawn := d }) : wpAny (model P w) A (Builtin.Frozenset.copyOf b) Q E s := by
  have hT : s.TypeIs (.ref b) "set" := (R.setOf (P := P)).typeIs
  have hlt : b < s.heap.objs.size := R.lt
  unfold Builtin.Frozenset.copyOf Builtin.Frozenset.baseOf
  refine wpAny_bind (wpAny_bind (wpAny_isInstance hT sub_set_self ?_))
  simp only [if_true]
  refine wpAny_pure ?_
  refine wpAny_bind ?_
  unfold newSet setsByText
  refine wpAny_bind (wpAny_bind (wpAny_askSetting (wpAny_pure ?_)))
  dsimp only
  simp only [newObj]
  refine wpAny_bind (wpAny_alloc (wpAny_pure ?_))
  have ho : (s.heap.push (newO w)).get? s.heap.objs.size = some (newO w) := Heap.get?_push_size _ rfl
  have hne : s.heap.objs.size ≠ b := Nat.ne_of_gt hlt
  show wpAny _ _ (Builtin.Frozenset.addrOf (.ref s.heap.objs.size) >>= _) _ _ { s with heap := s.heap.push (newO w) }
  refine wpAny_bind (wpAny_pure ?_)
  refine wpAny_bind (merge_M (s := { s with heap := s.heap.push (newO w) }) (made_new ho) (R.at fun o e => Heap.get?_push_of_some _ e) hne (by omega) (fun s' Q' _ q => wpAny_pure q) fun h' d n' sb R' e0 e1 => ?_)
  have en : n' = n := e1 rfl
  subst en
  refine wpAny_pure (hQ h' d (fun c u e => (sb.2 c (Nat.ne_of_lt (Heap.lt_size e))).trans (Heap.get?_push_of_some _ e)) ⟨R'.congr fun k => by simp, fun z => ?_⟩)
  have eh : h' = s.heap.push (newO w) := e0 rfl z
  rw [eh]
  exact (made_new ho).2 rfl
end
end Wk
end
/-! ### WR5 -/
section
set_option Elab.async false
set_option linter.all false
set_option maxRecDepth 100000
set_option maxHeartbeats 2000000
/-! set(d) of a dict with whole numbers as keys; a | b; sorted(a) -/
namespace Wk
open PySem PySem.Spec PyProof.Rows L2
section
variable {P : Program} {w : World} {A : Around} {E : Value → Shared → Prop} {s : Shared} {a : Addr}
theorem anySet_no {d : Addr} (hT : s.TypeIs (.ref d) "dict") {Q : Bool → Shared → Prop} (h : Q false s) : wpAny (model P w) A (Builtin.Frozenset.isAnySet (.ref d)) Q E s := by
  unfold Builtin.Frozenset.isAnySet
  refine wpAny_bind (wpAny_isInstance (b := false) hT F.sub_dict_set ?_)
  exact wpAny_isInstance (b := false) hT F.sub_dict_frozenset h
theorem anySet_yes {d : Addr} (hT : s.TypeIs (.ref d) "set") {Q : Bool → Shared → Prop} (h : Q true s) : wpAny (model P w) A (Builtin.Frozenset.isAnySet (.ref d)) Q E s := by
  unfold Builtin.Frozenset.isAnySet
  refine wpAny_bind (wpAny_isInstance (b := true) hT sub_set_self ?_)
  exact wpAny_pure h
theorem pairs_at {knd : PySem.KeyKind P w Key} : ∀ {es : List DictEntry} {kvs : List (Key × Value)}, Pairs knd es kvs → ∀ (i : Nat) e, es[i]? = some e → ∃ k v, kvs[i]? = some (k, v) ∧ knd.is k e.key = true
  | _, _, .nil, i, e, h => by simp at h
  | _, _, .cons h1 h2 r, 0, e, h => by cases h; exact ⟨_, _, rfl, h1⟩
  | _, _, .cons h1 h2 r, i + 1, e, h => by
    obtain ⟨k, v, a, b⟩ := pairs_at r i e (by simpa using h)
    exact ⟨k, v, by simpa using a, b⟩
/-- a new set takes a dict's keys -/
theorem from_dict {r d : Addr} {o : Obj} {ep : Nat} {t : SetTable} {id : String} (ho : s.heap.get? r = some o) (hex : o.ExactSet) (hd : o.data = .set #[] ep t) (hc : Cln t 0) (hl : w.params.followText "set-order" = true ∨ t.led = true) {vs : List (Key × Value)} {ks : List Int}
    (D : s.heap.DictOf (mixKind P w) d vs) (lo : (d == sysModules) = false) (hk : vs.map (·.1) = ks.map Sum.inl) (hn : ks.length < 2040) (hne : r ≠ d) {Q : Unit → Shared → Prop}
    (hQ : ∀ h' n', Heap.SameBut r s.heap h' → SetR w h' r (fun k => decide (k ∈ ks)) n' → n' ≤ ks.length → Q () { s with heap := h' }) : wpAny (model P w) A (Builtin.Frozenset.updateFrom id r (.ref d)) Q E s := by
  obtain ⟨od, es, epd, hod, hxd, hdd, hkeys, hp, hnd⟩ := D
  have hT : s.TypeIs (.ref d) "dict" := ⟨od, hod, hxd.1⟩
  have hsz : es.size = ks.length := by
    have h1 := hp.length
    rw [Array.length_toList] at h1
    have h2 : vs.length = ks.length := by simpa using congrArg List.length hk
    omega
  have key_at : ∀ (i : Nat) (e : DictEntry), es[i]? = some e → ∃ k tk, ks[i]? = some k ∧ e.key = Value.int k tk ∧ e.hash = (intKind P w).hash k := by
    intro i e he
    obtain ⟨k, v, h1, h2⟩ := pairs_at hp i e (by rw [Array.getElem?_toList]; exact he)
    have h3 : (ks.map Sum.inl)[i]? = some k := by rw [← hk, List.getElem?_map, h1]; rfl
    rw [List.getElem?_map] at h3
    obtain ⟨x, hx, rfl⟩ := Option.map_eq_some_iff.mp h3
    obtain ⟨k', hk', hh⟩ := hkeys e (Array.mem_of_getElem? he)
    have ek : k' = Sum.inl x := (mixKind P w).inj _ _ _ hk' h2
    subst ek
    rcases keyIs_shape (show keyIs (Sum.inl x) e.key = true from h2) with ⟨j, tk, q1, q2⟩ | ⟨j, tk, q1, q2⟩
    · cases q1
      exact ⟨x, tk, hx, q2, hh⟩
    · cases q1
  unfold Builtin.Frozenset.updateFrom
  refine wpAny_bind (anySet_no hT ?_)
  simp only [Bool.false_eq_true, if_false]
  try refine wpAny_bind (wpAny_pure ?_)
  refine wpAny_bind (wpAny_typeOf hT ?_)
  refine wp_if_pos (by simp) ?_
  refine wpAny_bind (wpAny_rule ?_)
  try dsimp only
  refine wpAny_bind (m := Builtin.Frozenset.addrOf (.ref d)) (wpAny_pure ?_)
  refine wp_if_neg (by rw [lo]; simp) ?_
  try refine wpAny_bind (wpAny_pure ?_)
  refine wpAny_bind (wpAny_dictEpoch hod hdd ?_)
  refine wpAny_bind (wpAny_dictEntries hod hdd ?_)
  refine wpAny_bind (room_E ho hex hd hc (by omega) fun h1 o1 ep1 t1 sb1 ho1 hex1 hd1 hc1 _ e1 _ => ?_)
  have hod1 : h1.get? d = some od := (sb1.2 d (Ne.symm hne)).trans hod
  refine wpAny_bind (wpAny_dictEntries (s := { s with heap := h1 }) hod1 hdd ?_)
  have R0 : SetR w h1 r (fun k => decide (k ∈ ks.take 0)) 0 := ⟨o1, #[], ep1, t1, ho1, hex1, hd1, fun e he => by simp at he, by simp, fun k => by simp, by decide, hc1.fits, rfl, hc1.ris, by rw [e1]; exact hl⟩
  refine wpAny_bind (SeqAt.wpAny_forIn_span 0 es.size _ (fun i u s' => ∃ h' n', s' = { s with heap := h' } ∧ Heap.SameBut r s.heap h' ∧ SetR w h' r (fun k => decide (k ∈ ks.take i)) n' ∧ n' ≤ i) _ ?_ ?_ _ ⟨h1, 0, rfl, sb1, R0, Nat.le_refl _⟩)
  · rintro i u s' _ hi ⟨h', n', rfl, sb, R, hl'⟩
    have hod' : h'.get? d = some od := (sb.2 d (Ne.symm hne)).trans hod
    have hee : es[i]? = some es[i] := Array.getElem?_eq_getElem hi
    obtain ⟨k, tk, hki, hkey, hh⟩ := key_at i _ hee
    refine wpAny_bind (wpAny_dictEntries (s := { s with heap := h' }) hod' hdd ?_)
    rw [hee]
    dsimp only
    rw [hkey, hh]
    refine wpAny_bind (wpAny_holding (setR_add_hashed (P := P) (s := { s with heap := h' }) R (by unfold scanBound; omega) fun h2 sb2 R2 => ?_))
    have sb' := sb.trans sb2
    have hod2 : h2.get? d = some od := (sb'.2 d (Ne.symm hne)).trans hod
    refine wpAny_bind (wpAny_dictEpoch (s := { s with heap := h2 }) hod2 hdd ?_)
    refine wp_if_neg (by simp) ?_
    try refine wpAny_bind (wpAny_pure ?_)
    refine wpAny_pure ⟨h2, _, rfl, sb', R2.congr fun j => ?_, ?_⟩
    · rw [take_next hki, Bool.eq_iff_iff, decide_eq_true_eq, List.mem_append, List.mem_singleton, Bool.or_eq_true, decide_eq_true_eq, decide_eq_true_eq]
    · split <;> omega
  · rintro u s' ⟨h', n', rfl, sb, R, hl'⟩
    rw [Nat.zero_max, hsz] at R hl'
    rw [List.take_of_length_le (Nat.le_refl _)] at R
    exact wpAny_pure (hQ h' n' sb R hl')
/-- set(d) -/
theorem set_dict {d : Addr} {vs : List (Key × Value)} {ks : List Int} (D : s.heap.DictOf (mixKind P w) d vs) (lo : (d == sysModules) = false) (hk : vs.map (·.1) = ks.map Sum.inl) (hn : ks.length < 2040) {Q : Value → Shared → Prop}
    (hQ : ∀ h' n', (∀ b o, s.heap.get? b = some o → h'.get? b = some o) → SetR w h' s.heap.objs.size (fun k => decide (k ∈ ks)) n' → n' ≤ ks.length → Q (.ref s.heap.objs.size) { s with heap := h' }) :
    wpAny (model P w) A (call (.type "set") [.ref d]) Q E s := by
  obtain ⟨c, tl, hmro⟩ := F.called_set.mro
  have hmade := F.called_set.made
  have hsub := F.called_set.sub
  refine wpAny_call (codeAny_of_tree ?_)
  show wpAny _ _ (callAny (.type "set") _) _ _ _
  refine wpAny_pure ⟨Code.quiet_builtin _ (by decide +kernel), codeAny_builtin F.entry_type_call ?_⟩
  rw [Around.under_plain (weight_type_call_type "set" [.ref d] []) rfl]
  have k1 := F.called_set.notType
  have k2 := F.called_set.canCreate
  have k3 := F.typeCall_set_1 (.ref d)
  repeat (any_goals (first | assumption | wp_step))
  refine codeAny_mono (code_set_led1 (.ref d) (E := E) (Q₁ := fun obj s1 => obj = .ref s.heap.objs.size ∧ s1 = { s with heap := s.heap.push (newO w) }) ⟨rfl, rfl⟩) fun r s1 hr => ?_
  cases r with
  | error e => exact hr
  | ok fl =>
    cases fl with
    | ret obj =>
      obtain ⟨rfl, rfl⟩ := hr
      have hS : (s.heap.push (newO w)).get? s.heap.objs.size = some (newO w) := Heap.get?_push_size _ rfl
      have hT : Shared.TypeIs { s with heap := s.heap.push (newO w) } (.ref s.heap.objs.size) "set" := ⟨_, hS, rfl⟩
      have k4 := F.called_set.init.lookup
      have k5 := F.called_set.init.bind (.ref s.heap.objs.size)
      repeat (any_goals (first | assumption | wp_step))
      refine codeAny_mono (codeAny_call_builtin (R := wants (fun r s2 => r = .none ∧ ∃ h' n', s2 = { s with heap := h' } ∧ (∀ b o, s.heap.get? b = some o → h'.get? b = some o) ∧ SetR w h' s.heap.objs.size (fun k => decide (k ∈ ks)) n' ∧ n' ≤ ks.length) E) F.called_set.init.plain F.entry_set_init (check_set_init_1 hT ?_)) fun r2 s2 hr2 => ?_
      · obtain ⟨od, es, epd, hod, r⟩ := D
        have hlt : d < s.heap.objs.size := Heap.lt_size hod
        have D1 : (s.heap.push (newO w)).DictOf (mixKind P w) d vs := ⟨od, es, epd, Heap.get?_push_of_some _ hod, r⟩
        unfold Builtin.«set.__init__» noKeywords
        generalize hUF : Builtin.Frozenset.updateFrom = UF
        wp_walk
        subst hUF
        refine from_dict (s := { s with heap := s.heap.push (newO w) }) hS ⟨rfl, rfl, rfl⟩ rfl (fresh_cln _) (led_new w) D1 lo hk hn (Nat.ne_of_gt hlt) fun h' n' sb R' hl => ?_
        show wpAny _ _ (ret Value.none) _ _ _
        exact wpAny_pure ⟨rfl, h', n', rfl, fun b o e => (sb.2 b (Nat.ne_of_lt (Heap.lt_size e))).trans (Heap.get?_push_of_some _ e), R', hl⟩
      · cases r2 with
        | error e => exact hr2
        | ok fl2 =>
          cases fl2 with
          | ret r =>
            obtain ⟨rfl, h', n', rfl, hk', R', hl⟩ := hr2
            repeat (any_goals (first | assumption | wp_step))
            exact hQ h' n' hk' R' hl
          | _ => exact hr2.elim
    | _ => exact hr.elim
end
end Wk
end
/-! ### WBase -/
section
set_option Elab.async false
set_option linter.all false
set_option maxRecDepth 100000
set_option maxHeartbeats 2000000
namespace Wk
open PySem PySem.Spec PyProof.Rows L2
/-! The calculus: what an expression comes to over any heap that has what is known. -/
abbrev RR := V → Hp → Prop
def EvP (te : TE) (σ : L2.St) (H : Hp) (R : RR) : Prop := ∀ H1, Same H H1 → ∀ Q : VK, (∀ v H2, Same H1 H2 → R v H2 → Q v H2) → te σ H1 Q
def EvT (tt : TT) (σ : L2.St) (H : Hp) (b : Bool) : Prop := ∀ H1, Same H H1 → ∀ Q : Bool → Hp → Prop, (∀ H2, Same H1 H2 → Q b H2) → tt σ H1 Q
def EvA (ta : TA) (σ : L2.St) (H : Hp) (R : List V → Hp → Prop) : Prop := ∀ H1, Same H H1 → ∀ Q : List V → Hp → Prop, (∀ vs H2, Same H1 H2 → R vs H2 → Q vs H2) → ta σ H1 Q
def isV (x : V) : RR := fun v _ => v = x
def isA (xs : List V) : List V → Hp → Prop := fun vs _ => vs = xs
def isT (xs : List V) : RR := fun v H => ∃ p, v = .ref p ∧ H p = some (.tup xs)
def isL (xs : List V) : RR := fun v H => ∃ p, v = .ref p ∧ H p = some (.lst xs)
class Mono (R : RR) : Prop where
  mono : ∀ {v : V} {H H' : Hp}, Same H H' → R v H → R v H'
instance (x : V) : Mono (isV x) := ⟨fun _ h => h⟩
instance (xs : List V) : Mono (isT xs) := ⟨fun e ⟨p, h1, h2⟩ => ⟨p, h1, e _ _ h2⟩⟩
instance (xs : List V) : Mono (isL xs) := ⟨fun e ⟨p, h1, h2⟩ => ⟨p, h1, e _ _ h2⟩⟩
theorem _root_.L2.Same.new {H : Hp} {p : Addr} {o : HO} (h : H p = none) : Same H (upd H p o) := fun a u e => by
  rw [upd_ne (ne_of_none e h)]; exact e
theorem _root_.L2.Same.mut {B H : Hp} {p : Addr} {o : HO} (e : Same B H) (h : B p = none) : Same B (upd H p o) := fun a u ha => by
  rw [upd_ne (ne_of_none ha h)]; exact e _ _ ha
theorem _root_.L2.Same.rd {H H' : Hp} {a : Addr} {u : HO} (e : Same H H') (h : Rd H a u) : Rd H' a u := by
  rcases h with h | ⟨o, h⟩
  · exact .inl (e _ _ h)
  · exact .inr ⟨o, e _ _ h⟩
theorem _root_.L2.Same.sl {K : PySem.W.Frag} {H H' : Hp} {a : Addr} {xs : List V} (e : Same H H') (h : SqL K H a xs) : SqL K H' a xs := e.seq h
theorem _root_.L2.Same.st {K : PySem.W.Frag} {H H' : Hp} {a : Addr} {xs : List V} (e : Same H H') (h : SqT K H a xs) : SqT K H' a xs := by
  rcases h with h | h
  · exact .inl (e.rd h)
  · exact .inr h
section
variable {K : PySem.W.Frag} {σ : L2.St} {H H' : Hp} {ta tb tc te : TE} {t u : TT} {x y z v : V} {r r' : R2} {R Ra Rb : RR} {b : Bool}
theorem EvP.mono (e : Same H H') (h : EvP te σ H R) : EvP te σ H' R := fun H1 a Q q => h H1 (e.trans a) Q q
theorem EvT.mono (e : Same H H') (h : EvT t σ H b) : EvT t σ H' b := fun H1 a Q q => h H1 (e.trans a) Q q
theorem EvA.mono {ta : TA} {R : List V → Hp → Prop} (e : Same H H') (h : EvA ta σ H R) : EvA ta σ H' R := fun H1 a Q q => h H1 (e.trans a) Q q
theorem EvP.imp (h : EvP te σ H R) (k : ∀ v H1, Same H H1 → R v H1 → Ra v H1) : EvP te σ H Ra := fun H1 a Q q => h H1 a Q fun v H2 e hr => q v H2 e (k v H2 (a.trans e) hr)
theorem EvT.is {c : Bool} (h : EvT t σ H b) (e : b = c) : EvT t σ H c := by rw [← e]; exact h
theorem EvP.is (h : EvP te σ H (isV x)) (e : x = y) : EvP te σ H (isV y) := by rw [← e]; exact h
theorem ev_var {i : Nat} (h : σ[i]? = some (some v)) : EvP (tVar i) σ H (isV v) := fun H1 _ _ q => ⟨v, h, q _ H1 (Same.refl H1) rfl⟩
theorem ev_c : EvP (tC v) σ H (isV v) := fun H1 _ _ q => q _ H1 (Same.refl H1) rfl
/-- what an operation on values comes to -/
def RV (r : R2) (x y : V) (H : Hp) (R : RR) : Prop := ∀ H1, Same H H1 → ∀ Q : VK, (∀ v H2, Same H1 H2 → R v H2 → Q v H2) → r x y H1 Q
theorem ev_op (ha : EvP ta σ H (isV x)) (hb : EvP tb σ H (isV y)) (hr : RV r x y H R) : EvP (tOp r ta tb) σ H R := fun H1 e Q q =>
  ha H1 e _ fun v1 H2 e2 h1 => hb H2 (e.trans e2) _ fun v2 H3 e3 h2 => by
    cases h1; cases h2
    exact hr H3 ((e.trans e2).trans e3) Q fun v H4 e4 hv => q v H4 ((e2.trans e3).trans e4) hv
theorem ev_opG [m : Mono Ra] (ha : EvP ta σ H Ra) (hb : ∀ H1, Same H H1 → EvP tb σ H1 Rb) (hr : ∀ x y H1, Same H H1 → Ra x H1 → Rb y H1 → RV r x y H1 R) : EvP (tOp r ta tb) σ H R := fun H1 e Q q =>
  ha H1 e _ fun v1 H2 e2 h1 => hb H2 (e.trans e2) H2 (Same.refl _) _ fun v2 H3 e3 h2 =>
    hr v1 v2 H3 ((e.trans e2).trans e3) (m.mono e3 h1) h2 H3 (Same.refl _) Q fun v H4 e4 hv => q v H4 ((e2.trans e3).trans e4) hv
theorem rv_I0 {g : Int → Int → V} {i j : Int} : RV (rI0 g) (.int i) (.int j) H (isV (g i j)) := fun H1 _ _ q => ⟨i, j, rfl, rfl, q _ H1 (Same.refl H1) rfl⟩
theorem rv_I {C : Int → Int → Prop} {g : Int → Int → V} {i j : Int} (hc : C i j) : RV (rI C g) (.int i) (.int j) H (isV (g i j)) := fun H1 _ _ q => ⟨i, j, rfl, rfl, hc, q _ H1 (Same.refl H1) rfl⟩
theorem rv_eq (h : scal x y = true) : RV rEq x y H (isV (.bl (decide (x = y)))) := fun H1 _ _ q => ⟨h, q _ H1 (Same.refl H1) rfl⟩
theorem rv_ne (h : scal x y = true) : RV rNe x y H (isV (.bl (!decide (x = y)))) := fun H1 _ _ q => ⟨h, q _ H1 (Same.refl H1) rfl⟩
theorem rv_ixL {p : Addr} {xs : List V} {i : Int} (h : SqL K H p xs) (ha : atI xs i = some v) : RV (rIxL K) (.ref p) (.int i) H (isV v) := fun H1 e _ q => ⟨p, xs, i, v, rfl, rfl, e.sl h, ha, q _ H1 (Same.refl H1) rfl⟩
theorem rv_ixT {p : Addr} {xs : List V} {i : Int} (h : SqT K H p xs) (ha : atI xs i = some v) : RV (rIxT K) (.ref p) (.int i) H (isV v) := fun H1 e _ q => ⟨p, xs, i, v, rfl, rfl, e.st h, ha, q _ H1 (Same.refl H1) rfl⟩
theorem rv_inT {neg : Bool} {p : Addr} {xs : List V} (h : SqT K H p xs) (hx : flatV x = true) (ha : xs.all flatV = true) : RV (rIn K neg) x (.ref p) H (isV (.bl (if neg then !inV x xs else inV x xs))) := fun H1 e _ q => ⟨p, xs, rfl, .inr (e.st h), hx, ha, q _ H1 (Same.refl H1) rfl⟩
def rIsNn : R2 := fun x y H Q => y = .non ∧ Q (.bl (decide (x = .non))) H
theorem rv_isN : RV (fun x y H Q => y = .non ∧ Q (.bl (decide (x = .non))) H) x .non H (isV (.bl (decide (x = .non)))) := fun H1 _ _ q => ⟨rfl, q _ H1 (Same.refl H1) rfl⟩
/-! ints with their numbers -/
theorem e_add {i j : Int} (ha : EvP ta σ H (isV (.int i))) (hb : EvP tb σ H (isV (.int j))) : EvP (tOp (rI0 fun i j => .int (i + j)) ta tb) σ H (isV (.int (i + j))) := ev_op ha hb rv_I0
theorem e_sub {i j : Int} (ha : EvP ta σ H (isV (.int i))) (hb : EvP tb σ H (isV (.int j))) : EvP (tOp (rI0 fun i j => .int (i - j)) ta tb) σ H (isV (.int (i - j))) := ev_op ha hb rv_I0
theorem e_mul {i j : Int} (ha : EvP ta σ H (isV (.int i))) (hb : EvP tb σ H (isV (.int j))) (hc : CMul i j) : EvP (tOp (rI CMul fun i j => .int (i * j)) ta tb) σ H (isV (.int (i * j))) := ev_op ha hb (rv_I hc)
theorem e_lt {i j : Int} (ha : EvP ta σ H (isV (.int i))) (hb : EvP tb σ H (isV (.int j))) : EvP (tOp (rI0 fun i j => .bl (decide (i < j))) ta tb) σ H (isV (.bl (decide (i < j)))) := ev_op ha hb rv_I0
theorem e_le {i j : Int} (ha : EvP ta σ H (isV (.int i))) (hb : EvP tb σ H (isV (.int j))) : EvP (tOp (rI0 fun i j => .bl (decide (i ≤ j))) ta tb) σ H (isV (.bl (decide (i ≤ j)))) := ev_op ha hb rv_I0
theorem e_gt {i j : Int} (ha : EvP ta σ H (isV (.int i))) (hb : EvP tb σ H (isV (.int j))) : EvP (tOp (rI0 fun i j => .bl (decide (j < i))) ta tb) σ H (isV (.bl (decide (j < i)))) := ev_op ha hb rv_I0
theorem e_ge {i j : Int} (ha : EvP ta σ H (isV (.int i))) (hb : EvP tb σ H (isV (.int j))) : EvP (tOp (rI0 fun i j => .bl (decide (j ≤ i))) ta tb) σ H (isV (.bl (decide (j ≤ i)))) := ev_op ha hb rv_I0
theorem dec_vint {i j : Int} : decide (V.int i = V.int j) = decide (i = j) := by
  by_cases h : i = j
  · subst h; simp
  · have : ¬ V.int i = V.int j := fun z => h (V.int.inj z)
    rw [decide_eq_false h, decide_eq_false this]
theorem e_eq {i j : Int} (ha : EvP ta σ H (isV (.int i))) (hb : EvP tb σ H (isV (.int j))) : EvP (tOp rEq ta tb) σ H (isV (.bl (decide (i = j)))) := by
  rw [← dec_vint]; exact ev_op ha hb (rv_eq rfl)
theorem e_ne {i j : Int} (ha : EvP ta σ H (isV (.int i))) (hb : EvP tb σ H (isV (.int j))) : EvP (tOp rNe ta tb) σ H (isV (.bl (!decide (i = j)))) := by
  rw [← dec_vint]; exact ev_op ha hb (rv_ne rfl)
theorem e_ixT {p : Addr} {xs : List V} {i : Int} (ha : EvP ta σ H (isV (.ref p))) (hb : EvP tb σ H (isV (.int i))) (h : H p = some (.tup xs)) (hi : atI xs i = some v) : EvP (tOp (rIxT K) ta tb) σ H (isV v) := ev_op ha hb (rv_ixT (SqT.of h) hi)
theorem e_ixL {p : Addr} {xs : List V} {i : Int} (ha : EvP ta σ H (isV (.ref p))) (hb : EvP tb σ H (isV (.int i))) (h : H p = some (.lst xs)) (hi : atI xs i = some v) : EvP (tOp (rIxL K) ta tb) σ H (isV v) := ev_op ha hb (rv_ixL (SqL.of h) hi)
theorem e_fld {a C dx : Addr} {fs : List (Str × V)} {f : Str} (ha : EvP ta σ H (isV (.ref a))) (h : H a = some (.ins C dx fs)) (hc : Cls K C) (hn : NoAttr K C f) (hl : fs.lookup f = some v) : EvP (tFld K ta f) σ H (isV v) := fun H1 e Q q =>
  ha H1 e _ fun v1 H2 e2 h1 => by
    cases h1
    exact ⟨a, C, dx, fs, v, rfl, e2 _ _ (e _ _ h), hc, hn, hl, q _ H2 e2 rfl⟩
/-! tests -/
theorem et_test (h : EvP te σ H (isV (.bl b))) : EvT (tTest te) σ H b := fun H1 e _ q => h H1 e _ fun v H2 e2 hv => ⟨b, hv, q H2 e2⟩
theorem et_B (h : EvP te σ H (isV (.bl b))) : EvT (tB te) σ H b := fun H1 e _ q => h H1 e _ fun v H2 e2 hv => ⟨b, hv, q H2 e2⟩
theorem et_and {a b : Bool} (h1 : EvT t σ H a) (h2 : a = true → EvT u σ H b) : EvT (tAnd t u) σ H (a && b) := fun H1 e Q q => h1 H1 e _ fun H2 e2 => by
  cases a with
  | true => exact iteT (h2 rfl H2 (e.trans e2) Q fun H3 e3 => q H3 (e2.trans e3))
  | false => exact iteF (q H2 e2)
theorem et_or {a b : Bool} (h1 : EvT t σ H a) (h2 : a = false → EvT u σ H b) : EvT (tOr t u) σ H (a || b) := fun H1 e Q q => h1 H1 e _ fun H2 e2 => by
  cases a with
  | true => exact iteT (q H2 e2)
  | false => exact iteF (h2 rfl H2 (e.trans e2) Q fun H3 e3 => q H3 (e2.trans e3))
theorem et_not {a : Bool} (h1 : EvT t σ H a) : EvT (tNot t) σ H (!a) := fun H1 e _ q => h1 H1 e _ fun H2 e2 => q H2 e2
theorem e_andV {a b : Bool} (h1 : EvP ta σ H (isV (.bl a))) (h2 : a = true → EvP tb σ H (isV (.bl b))) : EvP (tAndV ta tb) σ H (isV (.bl (a && b))) := fun H1 e Q q => h1 H1 e _ fun v H2 e2 hv => ⟨a, hv, by
  cases a with
  | true => exact iteT (h2 rfl H2 (e.trans e2) Q fun v H3 e3 h => q v H3 (e2.trans e3) h)
  | false => exact iteF (q _ H2 e2 rfl)⟩
theorem e_orV {a b : Bool} (h1 : EvP ta σ H (isV (.bl a))) (h2 : a = false → EvP tb σ H (isV (.bl b))) : EvP (tOrV ta tb) σ H (isV (.bl (a || b))) := fun H1 e Q q => h1 H1 e _ fun v H2 e2 hv => ⟨a, hv, by
  cases a with
  | true => exact iteT (q _ H2 e2 rfl)
  | false => exact iteF (h2 rfl H2 (e.trans e2) Q fun v H3 e3 h => q v H3 (e2.trans e3) h)⟩
theorem e_notV {a : Bool} (h1 : EvP ta σ H (isV (.bl a))) : EvP (tNotV ta) σ H (isV (.bl (!a))) := fun H1 e _ q => h1 H1 e _ fun v H2 e2 hv => ⟨a, hv, q _ H2 e2 rfl⟩
theorem e_if (h : EvT t σ H b) (h1 : b = true → EvP ta σ H R) (h2 : b = false → EvP tb σ H R) : EvP (tIf t ta tb) σ H R := fun H1 e Q q => h H1 e _ fun H2 e2 => by
  cases b with
  | true => exact iteT (h1 rfl H2 (e.trans e2) Q fun v H3 e3 hv => q v H3 (e2.trans e3) hv)
  | false => exact iteF (h2 rfl H2 (e.trans e2) Q fun v H3 e3 hv => q v H3 (e2.trans e3) hv)
/-- a < b < c -/
theorem e_chain {k1 k2 : Bool} {w : V} (ha : EvP ta σ H (isV x)) (hb : EvP tb σ H (isV y)) (hr : RV r x y H (isV (.bl k1))) (hc : k1 = true → EvP tc σ H (isV w)) (hr2 : k1 = true → RV r' y w H (isV (.bl k2))) :
    EvP (tChain r r' ta tb tc) σ H (isV (.bl (k1 && k2))) := fun H1 e Q q =>
  ha H1 e _ fun v1 H2 e2 h1 => hb H2 (e.trans e2) _ fun v2 H3 e3 h2 => by
    cases h1; cases h2
    refine hr H3 ((e.trans e2).trans e3) _ fun v H4 e4 hv => ⟨k1, hv, ?_⟩
    cases k1 with
    | true =>
      refine iteT (hc rfl H4 (((e.trans e2).trans e3).trans e4) _ fun v3 H5 e5 h3 => ?_)
      cases h3
      exact hr2 rfl H5 ((((e.trans e2).trans e3).trans e4).trans e5) Q fun v H6 e6 hv => q v H6 ((((e2.trans e3).trans e4).trans e5).trans e6) hv
    | false => exact iteF (q _ H4 ((e2.trans e3).trans e4) rfl)
/-! arguments -/
theorem ea_nil : EvA tNil σ H (isA []) := fun H1 _ _ q => q _ H1 (Same.refl H1) rfl
theorem ea_cons {tr : TA} {vs : List V} (h : EvP ta σ H (isV x)) (hr : EvA tr σ H (isA vs)) : EvA (tCons ta tr) σ H (isA (x :: vs)) := fun H1 e _ q =>
  h H1 e _ fun v1 H2 e2 h1 => hr H2 (e.trans e2) _ fun v2 H3 e3 h2 => by cases h1; cases h2; exact q _ H3 (e2.trans e3) rfl
/-- an argument that is told by what is true of it -/
def isC (R : RR) (S : List V → Hp → Prop) : List V → Hp → Prop := fun vs H => ∃ v r, vs = v :: r ∧ R v H ∧ S r H
theorem ea_consG {tr : TA} {S : List V → Hp → Prop} [m : Mono R] (h : EvP ta σ H R) (hr : ∀ H1, Same H H1 → EvA tr σ H1 S) : EvA (tCons ta tr) σ H (isC R S) := fun H1 e _ q =>
  h H1 e _ fun v1 H2 e2 h1 => hr H2 (e.trans e2) H2 (Same.refl _) _ fun v2 H3 e3 h2 => q _ H3 (e2.trans e3) ⟨v1, v2, rfl, m.mono e3 h1, h2⟩
theorem sz_ok {n : Nat} (h : n ≤ 1000000) : n ≤ sizeLine := Nat.le_trans h (by decide)
theorem sz_lt {n : Nat} (h : n < 16000000) : n < sizeLine := Nat.lt_of_lt_of_le h (by decide)
theorem e_tup {ta : TA} {vs : List V} (h : EvA ta σ H (isA vs)) (hl : vs.length ≤ 1000000) : EvP (tTup ta) σ H (isT vs) := fun H1 e _ q =>
  h H1 e _ fun us H2 e2 hu => by
    cases hu
    exact ⟨sz_ok hl, fun p hp => q _ _ (e2.trans (Same.new hp)) ⟨p, rfl, upd_same⟩⟩
theorem e_lst {ta : TA} {vs : List V} (h : EvA ta σ H (isA vs)) (hl : vs.length ≤ 1000000) : EvP (tLst ta) σ H (isL vs) := fun H1 e _ q =>
  h H1 e _ fun us H2 e2 hu => by
    cases hu
    exact ⟨sz_ok hl, fun p hp => q _ _ (e2.trans (Same.new hp)) ⟨p, rfl, upd_same⟩⟩
/-- built-ins by values -/
def RC (r : List V → Hp → VK → Prop) (S : List V → Hp → Prop) (H : Hp) (R : RR) : Prop := ∀ vs H1, Same H H1 → S vs H1 → ∀ Q : VK, (∀ v H2, Same H1 H2 → R v H2 → Q v H2) → r vs H1 Q
theorem e_cb {r : List V → Hp → VK → Prop} {ta : TA} {S : List V → Hp → Prop} (h : EvA ta σ H S) (hr : RC r S H R) : EvP (tCB r ta) σ H R := fun H1 e Q q =>
  h H1 e _ fun us H2 e2 hu => hr us H2 (e.trans e2) hu Q fun v H3 e3 hv => q v H3 (e2.trans e3) hv
/-- a def's promise that it gives what R tells, and leaves all that stands -/
def pure (S : List V → Hp → RR → Prop) : Sp := fun vs H Q _ => ∃ R, S vs H R ∧ ∀ v H', Same H H' → R v H' → Q v H'
theorem e_call {S : List V → Hp → RR → Prop} {P : List V → Hp → Prop} {E : XK} {ta : TA} (h : EvA ta σ H P) (hs : ∀ vs H1, Same H H1 → P vs H1 → S vs H1 R) : EvP (tCall (pure S) [] E ta) σ H R := fun H1 e Q q =>
  h H1 e _ fun us H2 e2 hu => by
    show pure S (us ++ []) H2 Q E
    rw [List.append_nil]
    exact ⟨R, hs us H2 (e.trans e2) hu, fun v H3 e3 hv => q v H3 (e2.trans e3) hv⟩
theorem e_callV {S : List V → Hp → RR → Prop} {vs : List V} {E : XK} {ta : TA} (h : EvA ta σ H (isA vs)) (hs : ∀ H1, Same H H1 → S vs H1 R) : EvP (tCall (pure S) [] E ta) σ H R :=
  e_call h fun us H1 e hu => by cases hu; exact hs H1 e
end

/-! statements: B is what stood before, whose things stand all the time -/
def Run (t : TS) (σ : L2.St) (B H : Hp) (R : RR) (N : L2.St → Hp → Prop) : Prop := ∀ H1, Same H H1 → ∀ D : Ends, (∀ v H2, Same B H2 → R v H2 → D.rt v H2) → (∀ σ' H2, Same B H2 → N σ' H2 → D.nx σ' H2) → t D σ H1
def noN : L2.St → Hp → Prop := fun _ _ => False
section
variable {K : PySem.W.Frag} {σ : L2.St} {B H H' : Hp} {ta tb te : TE} {c : TT} {t u z : TS} {x y v : V} {R Ra Rb : RR} {N M : L2.St → Hp → Prop} {b : Bool}
theorem Run.mono (e : Same H H') (h : Run t σ B H R N) : Run t σ B H' R N := fun H1 a D q n => h H1 (e.trans a) D q n
theorem Run.imp (h : Run t σ B H R N) (hR : ∀ v H', Same B H' → R v H' → Ra v H') (hN : ∀ σ' H', Same B H' → N σ' H' → M σ' H') : Run t σ B H Ra M := fun H1 a D q n => h H1 a D (fun v H2 e hv => q v H2 e (hR v H2 e hv)) fun σ' H2 e hn => n σ' H2 e (hN σ' H2 e hn)
theorem s_seq (h : Run t σ B H R M) (k : ∀ σ' H1, Same B H1 → M σ' H1 → Run u σ' B H1 R N) : Run (tSeq t u) σ B H R N := fun H1 e D q n =>
  h H1 e { D with nx := u D } q fun σ' H2 e2 hm => k σ' H2 e2 hm H2 (Same.refl _) D q n
theorem s_ret (s : Same B H) (h : EvP te σ H R) : Run (tRet te) σ B H R N := fun H1 e D q _ => h H1 e _ fun v H2 e2 hv => q v H2 ((s.trans e).trans e2) hv
theorem s_set {i : Nat} (h : EvP te σ H Ra) (k : ∀ v H1, Same H H1 → Ra v H1 → Run u (σ.set i (some v)) B H1 R N) : Run (tSeq (tAsg te (gName i)) u) σ B H R N := fun H1 e D q n =>
  h H1 e _ fun v H2 e2 hv => k v H2 (e.trans e2) hv H2 (Same.refl _) D q n
theorem s_setN {i : Nat} (s : Same B H) (h : EvP te σ H Ra) (k : ∀ v H1, Same H H1 → Ra v H1 → N (σ.set i (some v)) H1) : Run (tAsg te (gName i)) σ B H R N := fun H1 e D q n =>
  h H1 e _ fun v H2 e2 hv => n _ _ ((s.trans e).trans e2) (k v H2 (e.trans e2) hv)
theorem s_if (h : EvT c σ H b) (h1 : b = true → Run t σ B H R N) (h2 : b = false → Run u σ B H R N) : Run (tIfS c t u) σ B H R N := fun H1 e D q n => h H1 e _ fun H2 e2 => by
  cases b with
  | true => exact iteT (h1 rfl H2 (e.trans e2) D q n)
  | false => exact iteF (h2 rfl H2 (e.trans e2) D q n)
theorem s_nx (h : ∀ H1, Same H H1 → Same B H1 ∧ N σ H1) : Run tNext σ B H R N := fun H1 e D _ n => n σ H1 (h H1 e).1 (h H1 e).2
/-- if t: return .. -/
theorem s_when (h : EvT c σ H b) (h1 : b = true → Run t σ B H R noN) (h2 : b = false → Run z σ B H R N) : Run (tSeq (tIfS c t tNext) z) σ B H R N := fun H1 e D q n => h H1 e _ fun H2 e2 => by
  cases b with
  | true => exact iteT (h1 rfl H2 (e.trans e2) { D with nx := z D } q fun _ _ _ z => z.elim)
  | false => exact iteF (h2 rfl H2 (e.trans e2) D q n)
/-- a def's body: from a base promise -/
theorem body {t : TS} {σ : L2.St} {H : Hp} {Q : VK} (h : Run t σ H H R noN) (q : ∀ v H', Same H H' → R v H' → Q v H') : t { nx := fun _ H' => Q .non H', rt := Q } σ H :=
  h H (Same.refl _) _ (fun v H2 e hv => q v H2 e hv) fun _ _ _ z => z.elim
/-- a for over a list that stands -/
theorem s_forL {a : Addr} {xs : List V} {tl : TE} {j : Nat} {tb : TS} (s : Same B H) (h : EvP tl σ H (isV (.ref a))) (hx : SqL K H a xs) (Pv : Nat → L2.St → Hp → Prop) (h0 : ∀ H1, Same H H1 → Pv 0 σ H1)
    (hl : ∀ i σ' H', i ≤ xs.length → Same B H' → Pv i σ' H' → SqL K H' a xs)
    (hs : ∀ i x σ' H', xs[i]? = some x → Same B H' → Pv i σ' H' → Run tb (σ'.set j (some x)) B H' R (Pv (i + 1)))
    (hd : ∀ σ' H', Same B H' → Pv xs.length σ' H' → N σ' H') : Run (tFor (iList K tl) (gName j) tb) σ B H R N := fun H1 e D q n =>
  h H1 e _ fun v H2 e2 hv => ⟨a, hv, ⟨xs, (e.trans e2).sl hx⟩, for_list (K := K) (a := a) (xs := xs) (fun i σ' H' => Same B H' ∧ Pv i σ' H') ⟨(s.trans e).trans e2, h0 H2 (e.trans e2)⟩
    (fun i σ' H' hi p => hl i σ' H' hi p.1 p.2) (fun i x σ' H' hi p => hs i x σ' H' hi p.1 p.2 H' (Same.refl _) _ q fun σ2 H3 e3 hn => ⟨e3, hn⟩) fun σ' H' p => n σ' H' p.1 (hd σ' H' p.1 p.2)⟩
end
theorem at0 {x : V} {r : List V} : atI (x :: r) 0 = some x := atI_nat (j := 0) rfl
end Wk
end
/-! ### WR1 -/
section
set_option Elab.async false
set_option linter.all false
set_option maxRecDepth 100000
set_option maxHeartbeats 2000000
/-! list(reversed(xs)); sorted(d) of dicts of any length -/
namespace Wk
open PySem PySem.Spec PyProof.Rows L2 RT
def tListRev (K : PySem.W.Frag) (te : TE) : TE := fun σ H Q => te σ H fun x H1 => ∃ (a : Addr) (xs : List V), x = .ref a ∧ SqL K H1 a xs ∧ ∀ p, H1 p = none → Q (.ref p) (upd H1 p (.lst xs.reverse))
section
variable {prog : Program} {w : World} {A : Around} {E : Value → Shared → Prop} {s : Shared}
/-- a new list D takes what a reversed list gives -/
theorem rev_extend {D it l : Addr} {items : Array Value} {c0 : Nat} {res : Value} {R : Result → Shared → Prop} (hh : A.handled = none) (hit : s.heap.IsRevIter it l ((items.size : Int) - 1)) (hl : s.heap.IsList l items) (hne : l ≠ it) (hn : items.size ≤ sizeLine)
    (hD : s.heap.get? D = some { cls := .type "list", data := .seq #[] c0 }) (hDi : D ≠ it) (hDl : D ≠ l)
    (hR : ∀ h' tk acc c, (∀ b o, b ≠ D → b ≠ it → s.heap.get? b = some o → h'.get? b = some o) → h'.get? D = some { cls := .type "list", dict := none, data := .seq acc c, slots := #[] } → ItemsOf (fun i v => items[items.size - 1 - i]? = some v) acc items.size → R (.ok (.ret res)) { s with heap := h', toks := tk }) :
    wpAny (model prog w) A.in1 (Builtin.List.listExtendWith (.ref D) (.ref it) res)
      (fun fin s' => match fin with | .done f => R (.ok f) s' | .again c' => c'.quiet = true ∧ codeAny (model prog w) A c' R s') (fun e s' => R (.error e) s') s := by
  have hh1 : A.in1.handled = none := hh
  have Wk := (Walks.listRev (prog := prog) (w := w) (A := A.in1) hh1 it l hne items).toS
  have hDf : D ∉ [it, l] := by
    simp only [List.mem_cons, List.not_mem_nil, or_false, not_or]
    exact ⟨hDi, hDl⟩
  have hty : s.TypeIs (.ref it) "list_reverseiterator" := hit.typeIs
  unfold Builtin.List.listExtendWith
  refine wpAny_bind (wpAny_typeOf hty ?_)
  rw [if_neg (by rw [show Builtin.List.listSameRef (.ref D) (.ref it) = false by simp [Builtin.List.listSameRef, hDi]]; decide)]
  refine wpAny_bind (wpAny_pyIter_revIter hit ?_)
  refine wpAny_bind (wpAny_holding ?_)
  unfold Builtin.List.listLengthHint
  refine wpAny_bind (wpAny_specialOf hty nolen_lri ?_)
  show wpAny _ A.in1 (specialOf (Value.ref it) (Str.ofString "__length_hint__") >>= _) _ _ _
  refine wpAny_bind (wpAny_specialOf hty hint_lri ?_)
  generalize hq : ("list_reverseiterator.__length_hint__" : String) = nm
  wp_delta
  rw [show splitId nm = some ("list_reverseiterator", "__length_hint__") from by subst hq; decide +kernel]
  subst hq
  refine wpAny_bind (wpAny_isInstance (b := true) hty (by rw [isSubtype_type]; kernel_rfl) ?_)
  refine wpAny_pure ?_
  rw [if_neg (by decide)]
  have ez : ((items.size : Nat) : Int) - 1 - ((0 : Nat) : Int) = (items.size : Int) - 1 := by omega
  refine wpAny_pure ⟨plainId_quiet F.plain_extend_loop _, codeAny_extend_loopS Wk hn D hDf res items.size 0 _ #[] c0 rfl (Nat.zero_le _) ⟨Nat.zero_le _, by rw [ez]; exact hit, hl⟩ hD (ItemsOf.nil _) fun s' acc c hm hS' hacc => ?_⟩
  rw [Moved.eq_with hm]
  refine hR s'.heap s'.toks acc c (fun b o h1 h2 e => hm.heap b o (fun hb => ?_) e) hS' hacc
  rcases List.mem_cons.mp hb with z | z
  · exact h1 z
  · exact h2 (List.mem_singleton.mp z)
theorem call_list_rev {it l : Addr} {items : Array Value} {Q : Value → Shared → Prop} (hh : A.handled = none) (hit : s.heap.IsRevIter it l ((items.size : Int) - 1)) (hl : s.heap.IsList l items) (hne : l ≠ it) (hn : items.size ≤ sizeLine)
    (hQ : ∀ h' tk acc c, (∀ b o, b ≠ it → s.heap.get? b = some o → h'.get? b = some o) → h'.get? s.heap.objs.size = some { cls := .type "list", dict := none, data := .seq acc c, slots := #[] } → ItemsOf (fun i v => items[items.size - 1 - i]? = some v) acc items.size → Q (.ref s.heap.objs.size) { s with heap := h', toks := tk }) :
    wpAny (model prog w) A (call (.type "list") [.ref it]) Q E s := by
  refine callType_codes (Q₁ := fun obj s1 => obj = .ref s.heap.objs.size ∧ s1 = { s with heap := s.heap.push { cls := .type "list", data := .seq #[] } }) PySem.F.called_list (PySem.F.typeCall_list_1 _) PySem.F.entry_list_init
    (code_list_new _ ⟨rfl, rfl⟩) fun obj s1 h1 => ?_
  obtain ⟨rfl, rfl⟩ := h1
  have hD : (s.heap.push { cls := .type "list", data := .seq #[] }).get? s.heap.objs.size = some { cls := .type "list", data := .seq #[] } := Heap.get?_push_size _ rfl
  obtain ⟨oi, hoi, _⟩ := id hit
  obtain ⟨ol, hol, _⟩ := id hl
  have d1 : s.heap.objs.size ≠ it := Nat.ne_of_gt (Heap.lt_size hoi)
  have d2 : s.heap.objs.size ≠ l := Nat.ne_of_gt (Heap.lt_size hol)
  refine ⟨⟨_, hD, rfl⟩, PySem.F.args_list_init_2 _ _, ?_⟩
  show wpAny _ _ (do let old ← Builtin.List.listItems (.ref s.heap.objs.size); Builtin.List.listUpdate (.ref s.heap.objs.size) (fun _ => #[]); letGo old.toList.reverse; Builtin.List.listExtendWith (.ref s.heap.objs.size) (.ref it) .none) _ _ _
  refine wpAny_bind ?_
  unfold Builtin.List.listItems
  refine wpAny_bind (wpAny_seqItems hD rfl (wpAny_pure ?_))
  show wpAny _ _ (updateSeq s.heap.objs.size (fun _ => #[]) >>= fun _ => letGo (#[] : Array Value).toList.reverse >>= fun _ => Builtin.List.listExtendWith (.ref s.heap.objs.size) (.ref it) .none) _ _ _
  refine wpAny_bind (wpAny_updateSeq hD rfl ?_)
  have hD2 := Heap.get?_update_self (Obj.mapSeq (fun _ => (#[] : Array Value))) hD rfl
  have oth : ∀ b o, b ≠ s.heap.objs.size → s.heap.get? b = some o → ((s.heap.push { cls := .type "list", data := .seq #[] }).update s.heap.objs.size (Obj.mapSeq (fun _ => (#[] : Array Value)))).get? b = some o :=
    fun b o hb e => (Heap.get?_update_other _ _ (Ne.symm hb)).trans (Heap.get?_push_of_some _ e)
  refine wpAny_bind (wpAny_letGo ?_)
  refine rev_extend (A := A.in1) (s := { s with heap := (s.heap.push { cls := .type "list", data := .seq #[] }).update s.heap.objs.size (Obj.mapSeq (fun _ => (#[] : Array Value))) }) hh (hit.at fun o e => oth it o (Ne.symm d1) e) ?_ hne hn hD2 d1 d2 fun h' tk acc c hk hS hacc => ?_
  · obtain ⟨o, ho, r⟩ := hl
    exact ⟨o, oth l o (Ne.symm d2) ho, r⟩
  · exact ⟨rfl, hQ h' tk acc c (fun b o hb e => hk b o (Nat.ne_of_lt (Heap.lt_size e)) hb (oth b o (Nat.ne_of_lt (Heap.lt_size e)) e)) hS hacc⟩
end
section
variable {X : Cx}
theorem pe_listRev {e : Expr} {te : TE} {p p2 pos pos2 : Pos} (hc : X.calm = true) (hm : X.mg "list" = none) (hm2 : X.mg "reversed" = none) (he : PE X e te) (hg : Gl X "list" := by rfl) (hg2 : Gl X "reversed" := by rfl)
    (hs : starEach [e] X.env = (false, eval e X.env) :: starEach [] X.env := by rfl)
    (hs2 : starEach [.Call (.Name "reversed" p2) [e] [] pos2] X.env = (false, eval (.Call (.Name "reversed" p2) [e] [] pos2) X.env) :: starEach [] X.env := by rfl) :
    PE X (.Call (.Name "list" p) [.Call (.Name "reversed" p2) [e] [] pos2] [] pos) (tListRev X.K te) := by
  refine ⟨fun pins s σ H Q I h => ?_⟩
  refine Call_ (ld_blt I hg hm boot_list (PyProof.Rows.callWith_type1 (args_cons (Call_ (ld_blt I hg2 hm2 PyProof.Rows.boot_reversed (PyProof.Rows.callWith_type1 (args_cons (thn (he.run pins s σ H _ I h) fun u s1 ⟨v, H1, I1, r1, q1⟩ => args_nil ?_) hs) hs rfl))) hs2) hs2 rfl))
  obtain ⟨a, xs, ev, hq, q⟩ := q1
  subst ev
  obtain rfl : u = Value.ref a := r1
  obtain ⟨its, rv, pl, hz⟩ := I1.list hq
  refine call_reversed_list pl.isList (args_nil ?_)
  have I2 : Inv X pins σ H1 { s1 with heap := s1.heap.push (revObj a ((its.toArray.size : Int) - 1)) } := I1.kept (t' := s1.toks) fun b o e => Heap.get?_push_of_some _ e
  obtain ⟨f0, f1, f2, f3, f4, f5⟩ := I1.fpOk (H' := H1) (b := s1.heap.objs.size) (Nat.le_refl _) (I1.hok.fresh (Nat.le_refl _))
  have hl := pl.isList
  obtain ⟨ol, hol, _⟩ := id hl
  have hne : a ≠ s1.heap.objs.size := Nat.ne_of_lt (Heap.lt_size hol)
  have hn : its.toArray.size ≤ sizeLine := by rw [List.size_toArray, ← rv.length]; exact hz
  have hsz : (s1.heap.push (revObj a ((its.toArray.size : Int) - 1))).objs.size = s1.heap.objs.size + 1 := Heap.size_push ..
  refine call_list_rev (s := { s1 with heap := s1.heap.push (revObj a ((its.toArray.size : Int) - 1)) }) (I1.ok.hd hc) ⟨_, Heap.get?_push_size _ rfl, rfl, rfl⟩ (hl.push _) hne hn fun h' tk acc c hk hS hi => ?_
  have I3 : Inv X pins σ H1 { s1 with heap := h', toks := tk } := I2.turned (t' := tk) (fun b o hb e => hk b o hb e) f0 f1 f3 f4 f5
  have fr : H1 (s1.heap.push (revObj a ((its.toArray.size : Int) - 1))).objs.size = none := I1.hok.fresh (by rw [hsz]; exact Nat.le_succ _)
  refine ⟨.ref (s1.heap.push (revObj a ((its.toArray.size : Int) - 1))).objs.size, upd H1 (s1.heap.push (revObj a ((its.toArray.size : Int) - 1))).objs.size (.lst xs.reverse), I3.take (h' := h') (t' := tk) (fun b ob _ e => e) (I2.fpOk (Nat.le_refl _) fr) ⟨by rw [List.length_reverse]; exact hz, acc.toList, c, vals_rev rv hi, by rw [Array.toArray_toList]; exact hS⟩, rfl, q _ fr⟩
end
def rSortedDI : List V → Hp → VK → Prop := fun xs H Q => ∃ (a : Addr) (kvs : List (Key × V)) (ks : List Int), xs = [.ref a] ∧ Rd H a (.dK kvs) ∧ kvs.map (·.1) = ks.map Sum.inl ∧
    ∀ (ys : List Int) (p : Addr), ys.Perm ks → ys.Pairwise (· ≤ ·) → H p = none → Q (.ref p) (upd H p (.lst (ys.map V.int)))
section
variable {X : Cx}
theorem cr_sortedDI (hc : X.calm = true) : CallR X (.builtin "sorted") rSortedDI := by
  intro pins s σ H xs us Q I r q
  obtain ⟨a, kvs, ks, rfl, hd, hks, q⟩ := q
  obtain rfl := Vals.ref1 r
  obtain ⟨z, lo, vs, rel, dd⟩ := dk_rd I.hok hd
  obtain ⟨ep, hat⟩ := dd.dictAt
  have ek : vs.map (·.1) = ks.map Sum.inl := rel.keys.symm.trans hks
  have hl : vs.length = ks.length := by simpa using congrArg List.length ek
  have hz : vs.length ≤ sizeLine := by rw [← rel.length]; exact z
  refine Calls.call_function_entry PyProof.Rows.kind_sorted PyProof.Rows.plain_sorted PyProof.Rows.entry_sorted (PyProof.Rows.args_sorted1 _) ?_
  unfold Builtin.«sorted»
  refine wpAny_bind (m := checkCount "sorted" 1 1 _) (wpAny_pure ?_)
  refine wpAny_bind (PySem.W.kdu_collect (A := X.A.in1) (PySem.W.kdl_dict (knd := mixKind X.prog X.w) (kvs := vs) (ep := ep) lo) (I.ok.hd hc) hat hz fun h' tk acc hk hacc => ?_)
  have hal : acc.toList.length = ks.length := by rw [Array.length_toList, hacc.1, hl]
  have hS : IntsAre acc.toList ks := ints_each hal fun j v e => by
    obtain ⟨k, x, e1, e2⟩ := hacc.2 j v (by rw [← Array.getElem?_toList]; exact e)
    have e3 : (ks.map Sum.inl)[j]? = some k := by rw [← ek, List.getElem?_map, e1]; rfl
    rw [List.getElem?_map] at e3
    obtain ⟨y, e4, rfl⟩ := Option.map_eq_some_iff.mp e3
    rcases keyIs_shape (show keyIs (Sum.inl y) v = true from e2) with ⟨i, t, q1, q2⟩ | ⟨i, t, q1, q2⟩
    · cases q1; exact ⟨y, t, e4, q2⟩
    · cases q1
  have I1 : Inv X pins σ H { s with heap := h', toks := tk } := I.kept hk
  refine wpAny_bind (wpAny_newList ?_ (by rw [hal, ← hl]; exact hz))
  have ho : (h'.push (seqObj "list" acc.toList.toArray 0)).get? h'.objs.size = some (seqObj "list" acc.toList.toArray 0) := Heap.get?_push_size _ rfl
  show wpAny _ _ _ _ _ { s with heap := h'.push (seqObj "list" acc.toList.toArray 0), toks := tk }
  refine wpAny_bind (wpAny_holding (wpAny_call_entry PyProof.Rows.slot_list_sort ⟨_, ho, rfl⟩ PyProof.Rows.entry_list_sort
    (SrtO.list_sort_ord (s := { s with heap := h'.push (seqObj "list" acc.toList.toArray 0), toks := tk }) SrtO.swo_int ho (by rw [hal, ← hl]; exact hz) (fun h2 => SrtO.ints_sortable hS h2) fun out h1 h2 => ⟨_, rfl, ?_⟩) (PyProof.Rows.args_list_sort _)))
  obtain ⟨k1, k2, k3⟩ := SrtO.ints_out hS h1 h2
  obtain ⟨e', he'⟩ := PyProof.Rows.sortedHeap_at (vs := acc.toList) (out := out.toArray) ho
  have hlen : ((out.map SrtO.iv).map V.int).length ≤ sizeLine := by rw [List.length_map, k2.length_eq, ← hl]; exact hz
  refine wpAny_pure ⟨_, rfl, .ref h'.objs.size, upd H h'.objs.size (.lst ((out.map SrtO.iv).map V.int)), I1.laid (t' := tk) (fun b u e => ?_) (Nat.le_refl _)
    (show ObjOk X.prog X.w _ _ _ (.lst ((out.map SrtO.iv).map V.int)) from ⟨hlen, out, e', vals_of_ints k1, he'⟩), rfl, q _ _ k2 k3 (I1.hok.fresh (Nat.le_refl _))⟩
  have hb : b < h'.objs.size := Heap.lt_size e
  rw [PyProof.Rows.sortedHeap_old (Nat.ne_of_lt hb) (by rw [size_push']; exact Nat.lt_succ_of_lt hb)]
  exact Heap.get?_push_of_some _ e
end
end Wk
end
/-! ### WR3 -/
section
set_option Elab.async false
set_option linter.all false
set_option maxRecDepth 100000
set_option maxHeartbeats 2000000
/-! sorted(d), the keys tuples of whole numbers, of any length, any number of them -/
namespace Wk
open PySem PySem.Spec PyProof.Rows L2
/-- at v: a tuple of these ints -/
def IsTk (h : Heap) (v : Value) (ns : List Int) : Prop := ∃ (a : Addr) (its : Array Value), v = .ref a ∧ IsTup h a its ∧ IntsAre its.toList ns
def tkInts (h : Heap) : Value → List Int
  | .ref a => match h.get? a with
    | some o => match o.data with
      | .seq xs _ => xs.toList.map SrtO.iv
      | _ => []
    | none => []
  | _ => []
theorem IsTk.ints {h : Heap} {v : Value} {ns : List Int} (x : IsTk h v ns) : tkInts h v = ns := by
  obtain ⟨a, its, rfl, ⟨o, ho, _, n, hd⟩, hi⟩ := x
  show (match h.get? a with
    | some o => match o.data with
      | .seq xs _ => xs.toList.map SrtO.iv
      | _ => []
    | none => []) = ns
  rw [ho]
  simp only [hd]
  exact SrtO.iv_ints hi
theorem IsTk.keeps {h h' : Heap} {v : Value} {ns : List Int} (x : IsTk h v ns) (k : ∀ b o, v = .ref b → h.get? b = some o → h'.get? b = some o) : IsTk h' v ns := by
  obtain ⟨a, its, e, ⟨o, ho, r⟩, hi⟩ := x
  exact ⟨a, its, e, ⟨o, k a o e ho, r⟩, hi⟩
section
variable {prog : Program} {w : World} {A : Around} {E : Value → Shared → Prop} {s : Shared}
theorem lex_ints {fin : Bool} {Q : Bool → Shared → Prop} : ∀ {xs ys : List Value} {ns ms : List Int} (i : Nat), IntsAre xs ns → IntsAre ys ms → fin = decide (ns.length < ms.length) → Q (HT.lexLt ns ms) s → PySem.W.KatLex prog w A true fin Q (xs.zip ys) i s
  | [], ys, ns, ms, i, hx, hy, hf, q => by
    cases hx
    refine PySem.W.kat_nil ?_
    cases hy with
    | nil => rw [hf]; exact q
    | cons m t r => rw [hf]; exact q
  | x :: xs, [], ns, ms, i, hx, hy, hf, q => by
    cases hy
    cases hx with
    | cons n t r =>
      refine PySem.W.kat_nil ?_
      rw [hf]; exact q
  | x :: xs, y :: ys, ns, ms, i, hx, hy, hf, q => by
    cases hx with
    | cons n t r =>
      cases hy with
      | cons m u r' =>
        rw [HT.lexLt_cons] at q
        refine PySem.W.kat_cons (wpAny_eqBool_int ?_)
        by_cases c : n = m
        · rw [beq_iff_eq.mpr c]
          rw [if_pos c] at q
          refine PySem.W.kat_yes (lex_ints (i + 1) r r' (hf.trans ?_) q)
          rw [List.length_cons, List.length_cons]
          exact decide_eq_decide.mpr (by omega)
        · rw [beq_eq_false_iff_ne.mpr c]
          rw [if_neg c] at q
          refine PySem.W.kat_no ?_
          cases hi : (true && i == 0) with
          | true => exact oneLt_int q
          | false => exact PySem.W.kat_one _ _ (lt_int q)
/-- the three ways in which a sort compares tuples come to one -/
theorem tup_cmp3 {v u : Value} {ns ms : List Int} {Q : Bool → Shared → Prop} (hu : A.units < cLine) (hv : IsTk s.heap v ns) (hw : IsTk s.heap u ms) (q : Q (HT.lexLt ns ms) s) (κ : SortKind) (hk : κ = tuples' true ∨ κ = general' ∨ κ = oneType') : wpAny (model prog w) A (keyLt' κ v u) Q E s := by
  obtain ⟨a, xs, rfl, ha, ia⟩ := hv
  obtain ⟨b, ys, rfl, hb, ib⟩ := hw
  rcases hk with rfl | rfl | rfl
  · obtain ⟨o, ho, hc, n, hd⟩ := id ha
    obtain ⟨o2, ho2, hc2, n2, hd2⟩ := id hb
    refine PySem.W.kat_lt ho hd ho2 hd2 (lex_ints 0 ia ib ?_ q)
    rw [← ia.length, ← ib.length, Array.length_toList, Array.length_toList]
  · show wpAny (model prog w) A (oneLt' false (.ref a) (.ref b)) Q E s
    exact PySem.W.kat_one _ _ (HT.lt_tupInts ha hb ia ib hu q)
  · rw [keyLt'_oneType, oneLt'_eq]
    simp only [if_true]
    refine wpAny_bind (wpAny_cRoomFor hu ?_)
    have ta : s.TypeIs (.ref a) "tuple" := ha.typeIs
    obtain ⟨⟨c1, d1, t1, l1⟩, ho, hc, n, hd⟩ := id ha
    obtain ⟨⟨c2, d2, t2, l2⟩, ho2, hc2, n2, hd2⟩ := id hb
    simp only at hc hd hc2 hd2
    subst hc hd hc2 hd2
    refine wpAny_bind (wpAny_callSpecialIfBound?_slot ta PySem.F.slot_tuple_lt (call_meets PySem.F.slot_tuple_lt ta PySem.F.entry_tuple_lt (PySem.F.args_tuple_lt_2 _ _) (HT.tuple_lt_ints a b xs ys n n2 d1 d2 l1 l2 ns ms ia ib) ⟨ho, ho2, ?_⟩))
    exact wpAny_truthy_bool q
/-- what a sort asks first: each tuple's first item -/
theorem firsts_any {M : Model} : ∀ (vs : List Value) (cs : List (List Int)) {Q : List (Option Value) → Shared → Prop}, Paired (fun v c => IsTk s.heap v c) vs cs → (∀ fs : List (Option Value), Paired (fun f c => match c with | [] => f = none | x :: _ => ∃ t, f = some (Value.int x t)) fs cs → Q fs s) → wpAny M A (vs.mapM firstOfTuple') Q E s
  | _, _, Q, .nil, h => by rw [List.mapM_nil]; exact wpAny_pure (h [] .nil)
  | v :: vs, c :: cs, Q, .cons t r, h => by
    obtain ⟨a, its, rfl, ⟨o, ho, hc, n, hd⟩, hi⟩ := t
    rw [List.mapM_cons]
    refine wpAny_bind ?_
    rw [PySem.W.kas_first_eq]
    refine wpAny_bind (PySem.W.Looks.here (show PySem.W.Looks M s.heap (typeOf (.ref a)) o.cls from (PySem.W.Looks.ld ho).andThen .now) ?_)
    rw [hc, if_neg (by decide)]
    refine wpAny_bind (listItems_at ho hd (wpAny_pure ?_))
    refine wpAny_bind (firsts_any vs cs (Q := fun bs s' => wpAny M A (Pure.pure (its[0]? :: bs)) Q E s') r fun fs hfs => wpAny_pure (h _ (.cons ?_ hfs)))
    rw [← Array.getElem?_toList]
    generalize its.toList = l at hi
    cases hi with
    | nil => rfl
    | cons n t r => exact ⟨t, rfl⟩
theorem tup_kind {M : Model} {vs : List Value} {cs : List (List Int)} (hp : Paired (fun v c => IsTk s.heap v c) vs cs) (h0 : 0 < vs.length) : ∃ κ, (κ = tuples' true ∨ κ = general' ∨ κ = oneType') ∧ ∀ (Q : SortKind → Shared → Prop) (E : Value → Shared → Prop), Q κ s → wpAny M A (keyKind' vs.toArray) Q E s := by
  have hl := Paired.length hp
  by_cases c : ∀ x ∈ cs, x ≠ []
  · refine ⟨tuples' true, .inl rfl, fun Q E hq => ?_⟩
    rw [keyKind'_eq, List.mapM_toArray, map_eq_pure_bind]
    refine wpAny_bind (wpAny_bind (firsts_any vs cs hp fun fs hfs => wpAny_pure ?_))
    have hfl := Paired.length hfs
    have ex : ∃ us : List Value, fs = us.map some ∧ ∀ u ∈ us, ∃ x t, u = Value.int x t := by
      clear hfl hl hp h0 hq
      induction hfs with
      | nil => exact ⟨[], rfl, fun u hu => by cases hu⟩
      | @cons f k fs cs h1 h2 ih =>
        obtain ⟨us, e, hus⟩ := ih fun x hx => c x (List.mem_cons_of_mem _ hx)
        cases k with
        | nil => exact absurd rfl (c [] List.mem_cons_self)
        | cons x r =>
          obtain ⟨t, ef⟩ := h1
          refine ⟨.int x t :: us, by rw [ef, e]; rfl, fun u hu => ?_⟩
          rcases List.mem_cons.mp hu with z | z
          · exact ⟨x, t, z⟩
          · exact hus u z
    obtain ⟨us, rfl, hus⟩ := ex
    have hall : ((us.map some).toArray.all fun x => x.isSome) = true := by simp
    rw [if_pos hall]
    refine wpAny_bind (wpAny_rule ?_)
    have hfm : ((us.map some).toArray.filterMap id) = us.toArray := by simp
    rw [hfm, oneTypeOnly'_eq, List.mapM_toArray, map_eq_pure_bind]
    refine wpAny_bind (wpAny_bind (wpAny_bind (PySem.W.kas_mapM (r := Value.type "int") _ (fun v hv Q' hq' => ?_) (wpAny_pure ?_))))
    · obtain ⟨x, t, rfl⟩ := hus v hv
      exact wpAny_pure hq'
    · cases us with
      | nil => exfalso; rw [List.length_map] at hfl; simp at hfl; omega
      | cons u us =>
        have h1 : ((List.map (fun _ => Value.type "int") (u :: us)).toArray.all fun x => x == Value.type "int") = true := by
          simp only [List.all_toArray, List.all_map, List.all_eq_true]
          intro _ _; rfl
        have h2 : (List.map (fun _ => Value.type "int") (u :: us)).toArray[0]? = some (Value.type "int") := by simp
        rw [h2]
        simp only [h1, if_true]
        refine wpAny_pure (wpAny_pure ?_)
        exact hq
  · have cx : ∃ x ∈ cs, x = [] := Classical.byContradiction fun z => c fun x hx e => z ⟨x, hx, e⟩
    obtain ⟨x0, hx0, rfl⟩ := cx
    refine ⟨if ((cs.head?.getD []).isEmpty) = true then oneType' else general', ?_, fun Q E hq => ?_⟩
    · split
      · exact .inr (.inr rfl)
      · exact .inr (.inl rfl)
    rw [keyKind'_eq, List.mapM_toArray, map_eq_pure_bind]
    refine wpAny_bind (wpAny_bind (firsts_any vs cs hp fun fs hfs => wpAny_pure ?_))
    have hnone : none ∈ fs := by
      clear hq hl hp h0 c
      induction hfs with
      | nil => cases hx0
      | @cons f k fs cs h1 h2 ih =>
        rcases List.mem_cons.mp hx0 with z | z
        · subst z
          have h1' : f = none := h1
          rw [h1']; exact List.mem_cons_self
        · exact List.mem_cons_of_mem _ (ih z)
    have hall : (fs.toArray.all fun x => x.isSome) = false := by
      rw [List.all_toArray, List.all_eq_false]
      exact ⟨none, hnone, by simp⟩
    rw [hall]
    simp only [Bool.false_eq_true, if_false]
    have hc0 : (fs.toArray[0]?.bind id).isSome = !(cs.head?.getD []).isEmpty := by
      cases hfs with
      | nil => rfl
      | @cons f k fs cs h1 h2 =>
        cases k with
        | nil =>
          have h1' : f = none := h1
          rw [h1']; rfl
        | cons x r =>
          obtain ⟨t, ef⟩ := h1
          rw [ef]; rfl
    rw [hc0]
    cases hb : (cs.head?.getD []).isEmpty with
    | false =>
      rw [hb] at hq
      simp only [Bool.not_false, if_true]
      exact wpAny_pure hq
    | true =>
      rw [hb] at hq
      simp only [Bool.not_true, Bool.false_eq_true, if_false]
      rw [oneTypeOnly'_eq, List.mapM_toArray, map_eq_pure_bind]
      refine wpAny_bind (wpAny_bind (wpAny_bind (PySem.W.kas_mapM (r := Value.type "tuple") _ (fun v hv Q' hq' => ?_) (wpAny_pure ?_))))
      · obtain ⟨i, hi⟩ := List.mem_iff_getElem?.mp hv
        obtain ⟨c', _, a, its, rfl, ⟨o, ho, hc, _⟩, _⟩ := paired_get hp hi
        refine PySem.W.Looks.here (show PySem.W.Looks M s.heap (typeOf (.ref a)) o.cls from (PySem.W.Looks.ld ho).andThen .now) ?_
        rw [hc]; exact hq'
      · cases vs with
        | nil => exact absurd h0 (Nat.lt_irrefl _)
        | cons u us =>
          have h1 : ((List.map (fun _ => Value.type "tuple") (u :: us)).toArray.all fun x => x == Value.type "tuple") = true := by
            simp only [List.all_toArray, List.all_map, List.all_eq_true]
            intro _ _; rfl
          have h2 : (List.map (fun _ => Value.type "tuple") (u :: us)).toArray[0]? = some (Value.type "tuple") := by simp
          rw [h2]
          simp only [h1, if_true]
          exact wpAny_pure (wpAny_pure hq)
end
def rSortedDT : List V → Hp → VK → Prop := fun xs H Q => ∃ (a : Addr) (kvs : List (List Key × V)) (cs : List (List Int)), xs = [.ref a] ∧ H a = some (.dT kvs) ∧ kvs.map (·.1) = cs.map (fun c => c.map Sum.inl) ∧
    ∀ (ts : List Addr) (cs' : List (List Int)) (p : Addr), cs'.Perm cs → cs'.Pairwise (fun c d => HT.lexLt d c = false) → Paired (fun t c => H t = some (.tup (c.map V.int))) ts cs' → H p = none → Q (.ref p) (upd H p (.lst (ts.map V.ref)))
theorem paired_of {α β γ : Type} {F : α → γ → Prop} (f : β → α) (g : β → γ) : ∀ l : List β, (∀ x ∈ l, F (f x) (g x)) → Paired F (l.map f) (l.map g)
  | [], _ => .nil
  | x :: l, h => .cons (h x List.mem_cons_self) (paired_of f g l fun y hy => h y (List.mem_cons_of_mem _ hy))
section
variable {X : Cx}
theorem cr_sortedDT (hc : X.calm = true) (hu : X.A.units + 64 < cLine) : CallR X (.builtin "sorted") rSortedDT := by
  intro pins s σ H xs us Q I r q
  obtain ⟨d, kvs, cs, rfl, hd, hks, q⟩ := q
  obtain rfl := Vals.ref1 r
  obtain ⟨z, lo, ks, pr, o, es, ep, ho, hx, hdt, he, hn⟩ := (show ObjOk X.prog X.w H s.heap d (.dT kvs) from I.hok d _ hd)
  have l1 : es.size = ks.length := size_of_entries he
  have l2 : kvs.length = ks.length := Paired.length pr
  have l3 : kvs.length = cs.length := by simpa using congrArg List.length hks
  -- the keys' tuples, in order
  have kt : ∀ (j : Nat) (b : Addr), (ks.map fun x => x.2.1)[j]? = some b → ∃ c, cs[j]? = some c ∧ H b = some (.tup (c.map V.int)) := by
    intro j b hb
    obtain ⟨kv, hkv, hH⟩ : ∃ kv, kvs[j]? = some kv ∧ H b = some (.tup (kv.1.map kV)) := by
      have hj : j < kvs.length := by
        have := (List.getElem?_eq_some_iff.mp hb).1
        rw [List.length_map] at this
        omega
      obtain ⟨b', hb', hh⟩ := paired_get (isKeys_of pr) (List.getElem?_eq_getElem hj)
      rw [hb] at hb'
      cases hb'
      exact ⟨_, List.getElem?_eq_getElem hj, hh⟩
    have e : (kvs.map (·.1))[j]? = some kv.1 := by rw [List.getElem?_map, hkv]; rfl
    rw [hks, List.getElem?_map] at e
    obtain ⟨c, hc', e⟩ := Option.map_eq_some_iff.mp e
    refine ⟨c, hc', ?_⟩
    rw [hH, ← e, List.map_map]; rfl
  refine Calls.call_function_entry PyProof.Rows.kind_sorted PyProof.Rows.plain_sorted PyProof.Rows.entry_sorted (PyProof.Rows.args_sorted1 _) ?_
  unfold Builtin.«sorted»
  refine wpAny_bind (m := checkCount "sorted" 1 1 _) (wpAny_pure ?_)
  refine wpAny_bind (PySem.W.kdu_collect (A := X.A.in1) (kdl_raw lo hx hdt) (I.ok.hd hc) ho (by omega) fun h' tk acc hk hacc => ?_)
  have ea : acc.toList = (ks.map fun x => x.2.1).map Value.ref := by
    apply List.ext_getElem?
    intro j
    have hl : acc.toList.length = ks.length := by rw [Array.length_toList, hacc.1]; exact l1
    by_cases hj : j < ks.length
    · have ej : acc.toList[j]? = some acc.toList[j] := List.getElem?_eq_getElem (by omega)
      obtain ⟨en, hen, hv⟩ := hacc.2 j _ (by rw [← Array.getElem?_toList]; exact ej)
      have qe := entry_at he j
      rw [hen, List.getElem?_eq_getElem hj] at qe
      have e2 : en = entryOfKey (tupleKind (mixKind X.prog X.w)) ks[j] := Option.some.inj qe
      rw [ej, hv, e2, List.getElem?_map, List.getElem?_map, List.getElem?_eq_getElem hj]
      rfl
    · rw [List.getElem?_eq_none (by omega), List.getElem?_eq_none (by rw [List.length_map, List.length_map]; omega)]
  rw [ea]
  generalize hbs : (ks.map fun x => x.2.1) = bs at kt ea
  have hlb : bs.length = ks.length := by rw [← hbs, List.length_map]
  have I1 : Inv X pins σ H { s with heap := h', toks := tk } := I.kept hk
  have hz : (bs.map Value.ref).length ≤ sizeLine := by rw [List.length_map, hlb, ← l2]; exact z
  refine wpAny_bind (wpAny_newList ?_ hz)
  have hob : (h'.push (seqObj "list" (bs.map Value.ref).toArray 0)).get? h'.objs.size = some (seqObj "list" (bs.map Value.ref).toArray 0) := Heap.get?_push_size _ rfl
  show wpAny _ _ _ _ _ { s with heap := h'.push (seqObj "list" (bs.map Value.ref).toArray 0), toks := tk }
  -- each is a tuple of its numbers, wherever what stood stands
  have tk1 : ∀ h2 : Heap, (∀ b o, s.heap.get? b = some o → h2.get? b = some o) → Paired (fun v c => IsTk h2 v c) (bs.map Value.ref) cs := by
    intro h2 hk2
    have at1 : ∀ (j : Nat) (b : Addr) (c : List Int), bs[j]? = some b → cs[j]? = some c → IsTk h2 (.ref b) c := by
      intro j b c hb hcj
      obtain ⟨c', hc', hH⟩ := kt j b hb
      rw [hcj] at hc'
      cases hc'
      obtain ⟨_, its, rv, ot, hot, hct, nt, hdt'⟩ := I.hok b _ hH
      exact ⟨b, its.toArray, rfl, ⟨ot, hk2 _ _ hot, hct, nt, hdt'⟩, by simpa using rv.ints⟩
    have hlen : bs.length = cs.length := by omega
    clear kt ea hbs hlb hz hob q hks l3
    induction bs generalizing cs with
    | nil =>
      cases cs with
      | nil => exact .nil
      | cons c cs => simp at hlen
    | cons b bs ih =>
      cases cs with
      | nil => simp at hlen
      | cons c cs =>
        refine .cons (at1 0 b c rfl rfl) (ih cs (fun j b' c' h1 h2 => at1 (j + 1) b' c' (by simpa using h1) (by simpa using h2)) (by simpa using hlen))
  have kb : ∀ b o, s.heap.get? b = some o → b ≠ h'.objs.size := fun b o e => Nat.ne_of_lt (Heap.lt_size (hk b o e))
  have srt : 2 ≤ (bs.map Value.ref).length → SrtO.SortableO X.prog X.w X.A.in1.in1 { s with heap := h'.push (seqObj "list" (bs.map Value.ref).toArray 0), toks := tk } h'.objs.size (bs.map Value.ref) (fun v u => HT.lexLt (tkInts s.heap v) (tkInts s.heap u)) := by
    intro h2 h3 keep
    have hp : Paired (fun v c => IsTk h3 v c) (bs.map Value.ref) cs := tk1 h3 fun b o e => keep b o (kb b o e) (Heap.get?_push_of_some _ (hk b o e))
    obtain ⟨κ, hκ, hkk⟩ := tup_kind (M := model X.prog X.w) (A := X.A.in1.in1) (s := { s with heap := h3, toks := tk }) hp (by omega)
    refine ⟨κ, fun Q' E' hq => hkk Q' E' hq, fun p q' hp1 hq1 => ?_⟩
    obtain ⟨i, hi⟩ := List.mem_iff_getElem?.mp hp1
    obtain ⟨j, hj⟩ := List.mem_iff_getElem?.mp hq1
    obtain ⟨c1, e1, t1⟩ := paired_get hp hi
    obtain ⟨c2, e2, t2⟩ := paired_get hp hj
    obtain ⟨c1', e1', t1'⟩ := paired_get (tk1 s.heap fun b o e => e) hi
    obtain ⟨c2', e2', t2'⟩ := paired_get (tk1 s.heap fun b o e => e) hj
    rw [e1] at e1'; cases e1'
    rw [e2] at e2'; cases e2'
    refine tup_cmp3 (s := { s with heap := h3, toks := tk }) (by show X.A.units + 1 + 1 < cLine; omega) t1 t2 ⟨rfl, ?_⟩ κ hκ
    show _ = HT.lexLt (tkInts s.heap p.1) (tkInts s.heap q'.1)
    rw [t1'.ints, t2'.ints]
  refine wpAny_bind (wpAny_holding (wpAny_call_entry PyProof.Rows.slot_list_sort ⟨_, hob, rfl⟩ PyProof.Rows.entry_list_sort
    (SrtO.list_sort_ord (s := { s with heap := h'.push (seqObj "list" (bs.map Value.ref).toArray 0), toks := tk }) (NtL.swo_lexL (tkInts s.heap)) hob hz srt fun out h1 h2 => ⟨_, rfl, ?_⟩) (PyProof.Rows.args_list_sort _)))
  obtain ⟨e', he'⟩ := PyProof.Rows.sortedHeap_at (vs := bs.map Value.ref) (out := out.toArray) hob
  have tk0 := tk1 s.heap fun b o e => e
  have mem : ∀ v ∈ out, ∃ b c, v = Value.ref b ∧ IsTk s.heap v c ∧ H b = some (.tup (c.map V.int)) := by
    intro v hv
    obtain ⟨j, hj⟩ := List.mem_iff_getElem?.mp (h2.perm.mem_iff.mp hv)
    obtain ⟨c, hcj, t⟩ := paired_get tk0 hj
    rw [List.getElem?_map] at hj
    obtain ⟨b, hb, rfl⟩ := Option.map_eq_some_iff.mp hj
    obtain ⟨c', hc', hH⟩ := kt j b hb
    rw [hcj] at hc'; cases hc'
    exact ⟨b, c, rfl, t, hH⟩
  have eo : out = (out.map adO).map Value.ref := ref_map fun u hm => by
    obtain ⟨b, c, e, _⟩ := mem u hm
    exact ⟨b, e⟩
  have hcs : (bs.map Value.ref).map (tkInts s.heap) = cs := by
    clear q kt ea hbs hlb hz hob srt he' mem eo h1 h2
    have hlen : (bs.map Value.ref).length = cs.length := Paired.length tk0
    apply List.ext_getElem?
    intro j
    rw [List.getElem?_map]
    cases hj : (bs.map Value.ref)[j]? with
    | none =>
      rw [List.getElem?_eq_none (by have := List.getElem?_eq_none_iff.mp hj; omega)]; rfl
    | some v =>
      obtain ⟨c, hcj, t⟩ := paired_get tk0 hj
      rw [hcj, ← t.ints]; rfl
  have pm : (out.map (tkInts s.heap)).Perm cs := by rw [← hcs]; exact h2.perm.map _
  have hlen : ((out.map adO).map V.ref).length ≤ sizeLine := by
    rw [List.length_map, List.length_map, h2.perm.length_eq]; exact hz
  have rvo : Vals ((out.map adO).map V.ref) out := by
    have z := of_nts (out.map adO)
    rw [← eo] at z
    exact z
  refine wpAny_pure ⟨_, rfl, .ref h'.objs.size, upd H h'.objs.size (.lst ((out.map adO).map V.ref)), I1.laid (t' := tk) (fun b u e => ?_) (Nat.le_refl _)
    (show ObjOk X.prog X.w _ _ _ (.lst ((out.map adO).map V.ref)) from ⟨hlen, out, e', rvo, he'⟩), rfl, q (out.map adO) (out.map (tkInts s.heap)) _ pm ?_ ?_ (I1.hok.fresh (Nat.le_refl _))⟩
  · rw [PyProof.Rows.sortedHeap_old (Nat.ne_of_lt (Heap.lt_size e)) (by rw [size_push']; exact Nat.lt_succ_of_lt (Heap.lt_size e))]
    exact Heap.get?_push_of_some _ e
  · exact List.pairwise_map.mpr (h1.imp fun {x y} z => z)
  · refine paired_of adO (tkInts s.heap) out fun v hv => ?_
    obtain ⟨b, c, rfl, t, hH⟩ := mem v hv
    show H b = some (.tup ((tkInts s.heap (.ref b)).map V.int))
    rw [t.ints]; exact hH
end
end Wk
end
/-! ### WR6 -/
section
set_option Elab.async false
set_option linter.all false
set_option maxRecDepth 100000
set_option maxHeartbeats 2000000
/-! a | b of sets; sorted(a), of any length; sorted(set(d) | set(e)) -/
namespace Wk
open PySem PySem.Spec PyProof.Rows L2
section
variable {P : Program} {w : World} {A : Around} {E : Value → Shared → Prop} {s : Shared} {a : Addr}
theorem entry_set_or : entryFor table "set.__or__" = some Builtin.«frozenset.__or__» :=
  entryFor_alias (id' := "frozenset.__or__") (by kernel_rfl) rfl (by decide +kernel) (by kernel_rfl)
def unionOf (id : String) (l : Addr) (r : Value) : Sem Value := do
  let result ← Builtin.Frozenset.copyOf l
  if r != .ref l then holding [result] (Builtin.Frozenset.updateFrom id (← Builtin.Frozenset.addrOf result) r)
  return result
def orOf (nm : String) : Builtin := fun args => do
  let (self, other) ← Builtin.Frozenset.slot1 nm args
  let (l, r) := if false then (other, self) else (self, other)
  if !(← Builtin.Frozenset.isAnySet l <&&> Builtin.Frozenset.isAnySet r) then rule s!"frozenset.{nm}.declined"; return ← ret .notImplemented
  ret (← unionOf s!"frozenset.{nm}" (← Builtin.Frozenset.addrOf l) r)
theorem or_eq : Builtin.«frozenset.__or__» = orOf "__or__" := by rfl
theorem update_set {r b : Addr} {id : String} {S S2 : Int → Bool} {n n2 : Nat} (R1 : Made w s.heap r S n) (R2 : SetR w s.heap b S2 n2) (hne : r ≠ b) (hn : n + n2 < 2040) {Q : Unit → Shared → Prop}
    (hQ : ∀ h' d n', Heap.SameBut r s.heap h' → SetR w h' r (fun k => S k || S2 k) n' → Q () { s with heap := h', drawn := d }) : wpAny (model P w) A (Builtin.Frozenset.updateFrom id r (.ref b)) Q E s := by
  have hT : s.TypeIs (.ref b) "set" := (R2.setOf (P := P)).typeIs
  have R20 := R2
  obtain ⟨o2, es2, ep2, t2, ho2, hex2, hd2, g2, nd2, hm2, hb2, hf2, _⟩ := R2
  unfold Builtin.Frozenset.updateFrom
  refine wpAny_bind (anySet_yes hT ?_)
  simp only [if_true]
  refine wpAny_bind (m := Builtin.Frozenset.addrOf (.ref b)) (wpAny_pure ?_)
  unfold Builtin.Frozenset.merge
  refine wpAny_bind (wpAny_setEpoch_of ho2 hd2 hf2 ?_)
  refine merge_M R1 R20 hne hn (fun s' Q' e q => ?_) fun h' d n' sb R' _ _ => hQ h' d n' sb R'
  unfold Builtin.Frozenset.unchanged
  refine wpAny_bind (wpAny_setEpoch_of (e.trans ho2) hd2 hf2 ?_)
  refine wp_if_neg (by simp) ?_
  exact wpAny_pure q
/-- a | b -/
theorem or_sets {a b : Addr} {S S2 : Int → Bool} {n n2 : Nat} (R1 : SetR w s.heap a S n) (R2 : SetR w s.heap b S2 n2) (hne : a ≠ b) (hn : n + n2 < 2040) {Q : Value → Shared → Prop}
    (hQ : ∀ h' d n', (∀ c u, s.heap.get? c = some u → h'.get? c = some u) → SetR w h' s.heap.objs.size (fun k => S k || S2 k) n' → Q (.ref s.heap.objs.size) { s with heap := h', drawn := d }) : wpAny (model P w) A (binaryOp .BitOr (.ref a) (.ref b)) Q E s := by
  have ta : s.TypeIs (.ref a) "set" := (R1.setOf (P := P)).typeIs
  have tb : s.TypeIs (.ref b) "set" := (R2.setOf (P := P)).typeIs
  refine wpAny_binaryOp_same (op := .BitOr) ta tb F.fills_set_or F.slot_set_or (wpAny_call_entry F.slot_set_or ta entry_set_or ?_ (F.args_set_or_2 _ _))
  rw [or_eq]
  unfold orOf
  refine wpAny_bind (m := Builtin.Frozenset.slot1 "__or__" _) (wpAny_of_eq (a := (.ref a, .ref b)) (by rfl) ?_)
  simp only [Bool.false_eq_true, if_false]
  refine wpAny_bind ?_
  unfold andM
  refine wpAny_bind (anySet_yes ta ?_)
  simp only [toBool, if_true]
  refine anySet_yes tb ?_
  refine wp_if_neg (by simp) ?_
  try refine wpAny_bind (wpAny_pure ?_)
  refine wpAny_bind ?_
  unfold unionOf
  refine wpAny_bind (copy_R R1 (by omega) fun h1 d1 k1 M1 => ?_)
  have hlb : b < s.heap.objs.size := R2.lt
  have hne2 : s.heap.objs.size ≠ b := Nat.ne_of_gt hlb
  refine wp_if_pos (by simpa using Ne.symm hne) ?_
  refine wpAny_bind (m := Builtin.Frozenset.addrOf (.ref s.heap.objs.size)) (wpAny_pure ?_)
  refine wpAny_bind (wpAny_holding (update_set (s := { s with heap := h1, drawn := d1 }) M1 (R2.at fun o e => k1 _ _ e) hne2 hn fun h2 d2 n' sb2 R' => ?_))
  refine wpAny_pure ?_
  show wpAny _ _ (ret (.ref s.heap.objs.size)) _ _ _
  refine wpAny_pure ⟨_, rfl, (fun x => nomatch x), hQ h2 d2 n' (fun c u e => (sb2.2 c (Nat.ne_of_lt (Heap.lt_size e))).trans (k1 c u e)) R'⟩
/-- sorted(a), any number of items -/
theorem sorted_any {a : Addr} {S : Int → Bool} {n : Nat} {Q : Value → Shared → Prop} (R : SetR w s.heap a S n) (hh : A.handled = none)
    (hQ : ∀ s' p (out : List Value) (c : Nat) (ns : List Int), (∀ b o, s.heap.get? b = some o → s'.heap.get? b = some o) → s'.gens = s.gens → s'.os = s.os → s.heap.objs.size ≤ p →
      s'.heap.get? p = some (seqObj "list" out.toArray c) → IntsAre out ns → ns.Pairwise (· < ·) → (∀ k, k ∈ ns ↔ S k = true) → ns.length < scanBound → Q (.ref p) s') :
    wpAny (model P w) A (call (.builtin "sorted") [.ref a]) Q E s := by
  obtain ⟨o, es, ep, t, ho, hex, hd, g, nd, hm, hb, hf, hn, hr, hl⟩ := R
  refine Calls.call_function_entry kind_sorted plain_sorted entry_sorted (args_sorted1 _) ?_
  unfold Builtin.«sorted»
  refine wpAny_bind (m := checkCount "sorted" 1 1 _) (wpAny_pure ?_)
  refine wpAny_bind (collect_set (A := A.in1) hh ⟨o, ho, hex.1, hd⟩ hf hb hr hl fun s1 vs k1 hz g1 o1 pm => ?_)
  have hvl : vs.length = es.size := by rw [pm.length_eq, List.length_map, Array.length_toList]
  have hI : IntsAre vs (vs.map Builtin.Re.reRawOf) := ints_of vs fun v hv => by
    obtain ⟨e, he, q⟩ := List.mem_map.mp (pm.mem_iff.mp hv)
    obtain ⟨k, tk, h1, _⟩ := g e he
    exact ⟨k, tk, by rw [← q]; exact h1⟩
  have pk : (vs.map Builtin.Re.reRawOf).Perm (es.toList.map keyOf) := by
    have q := pm.map Builtin.Re.reRawOf
    rw [List.map_map] at q
    exact q
  have hsz : vs.length ≤ sizeLine := by rw [hvl]; exact fits_of_scanBound hb
  refine wpAny_bind (wpAny_newList ?_ hsz)
  have hoL : (s1.heap.push (seqObj "list" vs.toArray 0)).get? s1.heap.objs.size = some (seqObj "list" vs.toArray 0) := Heap.get?_push_size _ rfl
  show wpAny _ _ _ _ _ { s1 with heap := s1.heap.push (seqObj "list" vs.toArray 0) }
  refine wpAny_bind (wpAny_holding (wpAny_call_entry slot_list_sort ⟨_, hoL, rfl⟩ entry_list_sort
    (SrtO.list_sort_ord (s := { s1 with heap := s1.heap.push (seqObj "list" vs.toArray 0) }) SrtO.swo_int hoL hsz (fun h2 => SrtO.ints_sortable hI h2) fun out h1 h2 => ⟨_, rfl, ?_⟩) (args_list_sort _)))
  obtain ⟨k2, k3, k4⟩ := SrtO.ints_out hI h1 h2
  obtain ⟨c, hc⟩ := sortedHeap_at (vs := vs) (out := out.toArray) hoL
  have pn := k3.trans pk
  refine wpAny_pure ⟨_, rfl, hQ _ s1.heap.objs.size out c _ (fun b u e => ?_) g1 o1 hz hc k2 (lt_of_le_nodup _ k4 (pn.nodup_iff.mpr nd)) (fun k => by rw [pn.mem_iff, ← hm k]) (by rw [pn.length_eq, List.length_map, Array.length_toList]; exact hb)⟩
  have q := k1 b u e
  show (sortedHeap (s1.heap.push (seqObj "list" vs.toArray 0)) s1.heap.objs.size vs out.toArray).get? b = some u
  rw [sortedHeap_old (Nat.ne_of_lt (Heap.lt_size q)) (by rw [size_push']; exact Nat.lt_succ_of_lt (Heap.lt_size q))]
  exact Heap.get?_push_of_some _ q
end
section
variable {X : Cx}
/-- set(d), tracked -/
def rSetD (w : World) : List V → Hp → VK → Prop := fun xs H Q => ∃ (a : Addr) (kvs : List (Key × V)) (ks : List Int), xs = [.ref a] ∧ Rd H a (.dK kvs) ∧ kvs.map (·.1) = ks.map Sum.inl ∧ ks.length ≤ 1000 ∧
  ∀ (p : Addr) (n : Nat), H p = none → n ≤ ks.length → Q (.ref p) (upd H p (SetO w p (fun k => decide (k ∈ ks)) n))
theorem cr_setD : CallR X (.type "set") (rSetD X.w) := by
  intro pins s σ H xs us Q I r q
  obtain ⟨a, kvs, ks, rfl, hd, hks, hl, q⟩ := q
  obtain rfl := Vals.ref1 r
  obtain ⟨z, lo, vs, rel, dd⟩ := dk_rd I.hok hd
  refine set_dict dd lo (rel.keys.symm.trans hks) (by omega) fun h' n' hk R hn => ?_
  exact ⟨.ref s.heap.objs.size, upd H s.heap.objs.size (SetO X.w s.heap.objs.size (fun k => decide (k ∈ ks)) n'), I.laid (t' := s.toks) hk (Nat.le_refl _) (setO_new R), rfl, q _ n' (I.hok.fresh (Nat.le_refl _)) hn⟩
/-- a | b of tracked sets -/
def rOrS (w : World) : R2 := fun x y H Q => ∃ (a b : Addr) (S S2 : Int → Bool) (n n2 : Nat), x = .ref a ∧ y = .ref b ∧ a ≠ b ∧ H a = some (SetO w a S n) ∧ H b = some (SetO w b S2 n2) ∧ n + n2 < 2040 ∧
  ∀ (p : Addr) (m : Nat), H p = none → Q (.ref p) (upd H p (SetO w p (fun k => S k || S2 k) m))
theorem op_orS : OpR X (binaryOp .BitOr) (rOrS X.w) := by
  intro pins s σ H x y v u Q I rx ry h
  obtain ⟨a, b, S, S2, n, n2, rfl, rfl, hne, ha, hb, hl, q⟩ := h
  cases rx
  cases ry
  refine or_sets (setO_get I ha) (setO_get I hb) hne hl fun h' d m hk R => ?_
  have hn : H s.heap.objs.size = none := I.hok.fresh (Nat.le_refl _)
  have J : Inv X pins σ (upd H s.heap.objs.size (SetO X.w s.heap.objs.size (fun k => S k || S2 k) m)) { s with heap := h', gens := s.gens, drawn := d, toks := s.toks } :=
    I.call (ch := []) (Un.laid hk (Nat.le_refl _) hn) (I.hok.laid hk (Nat.le_refl _) (setO_new R)) I.bare (fun _ z => nomatch z)
  exact ⟨.ref s.heap.objs.size, _, J, rfl, q _ m hn⟩
def rSortedSA (w : World) : List V → Hp → VK → Prop := fun vs H Q => ∃ (a : Addr) (S : Int → Bool) (n : Nat), vs = [V.ref a] ∧ H a = some (SetO w a S n) ∧
  ∀ (ns : List Int) (p : Addr), ns.Pairwise (· < ·) → (∀ k : Int, k ∈ ns ↔ S k = true) → H p = none → Q (.ref p) (upd H p (.lst (ns.map V.int)))
theorem cr_sortedSA (hc : X.calm = true) : CallR X (.builtin "sorted") (rSortedSA X.w) := by
  intro pins s σ H vs us Q I r h
  obtain ⟨a, S, n, rfl, ha, q⟩ := h
  have R := setO_get I ha
  rw [Vals.ref1 r]
  refine sorted_any R (I.ok.hd hc) fun s' p out c ns k g o hp hg hi hs hm hl => ?_
  have hlen : (ns.map V.int).length ≤ sizeLine := by
    rw [List.length_map]; exact fits_of_scanBound hl
  have hn : H p = none := I.hok.fresh hp
  have J : Inv X pins σ (upd H p (.lst (ns.map V.int))) { s with heap := s'.heap, gens := s'.gens, drawn := s'.drawn, toks := s'.toks } :=
    I.call (ch := []) (Un.laid k hp hn) (I.hok.laid k hp ⟨hlen, out, c, vals_of_ints hi, hg⟩) (by rw [g]; exact I.bare) (fun _ z => nomatch z)
  have e : s' = { s with heap := s'.heap, gens := s'.gens, drawn := s'.drawn, toks := s'.toks } := by
    cases s'
    cases s
    cases o
    rfl
  rw [e]
  exact ⟨.ref p, _, J, rfl, q ns p hs hm hn⟩
def tSortedU (w : World) (ta tb : TE) : TE := tCB (rSortedSA w) (tCons (tOp (rOrS w) (tCB (rSetD w) (tCons ta tNil)) (tCB (rSetD w) (tCons tb tNil))) tNil)
theorem pe_sortedUnion {a b : Expr} {ta tb : TE} {p p1 p2 q1 q2 pb pos : Pos} (hc : X.calm = true) (hu : X.A.units + 64 < cLine) (hm : X.mg "sorted" = none) (hm2 : X.mg "set" = none) (ha : PE X a ta) (hb : PE X b tb) (hg : Gl X "sorted" := by rfl) (hg2 : Gl X "set" := by rfl)
    (na : starEach [a] X.env = (false, eval a X.env) :: starEach [] X.env := by rfl) (nb : starEach [b] X.env = (false, eval b X.env) :: starEach [] X.env := by rfl)
    (nc : starEach [.BinOp (.Call (.Name "set" p1) [a] [] q1) .BitOr (.Call (.Name "set" p2) [b] [] q2) pb] X.env = (false, eval (.BinOp (.Call (.Name "set" p1) [a] [] q1) .BitOr (.Call (.Name "set" p2) [b] [] q2) pb) X.env) :: starEach [] X.env := by rfl) :
    PE X (.Call (.Name "sorted" p) [.BinOp (.Call (.Name "set" p1) [a] [] q1) .BitOr (.Call (.Name "set" p2) [b] [] q2) pb] [] pos) (tSortedU X.w ta tb) := by
  have e1 := pe_callTy (p := p1) (pos := q1) cr_setD hg2 hm2 (by rfl) (pa_cons ha pa_nil na) (he := na) (hpl := by rfl)
  have e2 := pe_callTy (p := p2) (pos := q2) cr_setD hg2 hm2 (by rfl) (pa_cons hb pa_nil nb) (he := nb) (hpl := by rfl)
  have e3 := pe_op (pos := pb) op_orS e1 e2
  exact pe_callB (p := p) (pos := pos) (cr_sortedSA hc) hg hm (by rfl) (pa_cons e3 pa_nil nc) (he := nc) (hpl := by rfl)
end
end Wk
end
/-! ### WR7 -/
section
set_option Elab.async false
set_option linter.all false
set_option maxRecDepth 100000
set_option maxHeartbeats 2000000
/-! len(set(xs)), xs a list of up to 64 tuples of whole numbers -/
namespace Wk
open PySem PySem.Spec PyProof.Rows L2
/-- what a set has got from the first i tuples: its rows L; a set of ours as long as it's short -/
def Got2 (P : Program) (w : World) (h : Heap) (z : Addr) (ks : List (Addr × List Int)) (i : Nat) : Prop :=
  ∃ (L : List (Addr × List Int)) (o : Obj) (es : Array (Int × Value)) (ep : Nat) (t : SetTable), Got ks i L ∧ (L.map (·.2)).Nodup ∧ h.get? z = some o ∧ o.ExactSet ∧ o.data = .set es ep t ∧ t.fits es.size = true ∧ es.size = L.length ∧ (L.length < 64 → SetTR P w h z L es ep t)
section
variable {P : Program} {w : World} {A : Around} {E : Value → Shared → Prop} {s : Shared} {z : Addr}
theorem got_of (s : Shared) {h : Heap} {ks : List (Addr × List Int)} {i : Nat} {L : List (Addr × List Int)} {es : Array (Int × Value)} {ep : Nat} {t : SetTable} (R : SetTR P w h z L es ep t) (g : Got ks i L) : Got2 P w h z ks i := by
  obtain ⟨o, ho, hex, hd⟩ := R.ob
  exact ⟨L, o, es, ep, t, g, R.nd, ho, hex, hd, SetTR.fits (s := { s with heap := h }) R, SetTR.size (s := { s with heap := h }) R, fun _ => R⟩
/-- the 64th -/
theorem add_last {L : List (Addr × List Int)} {es : Array (Int × Value)} {ep : Nat} {t : SetTable} (R : SetTR P w s.heap z L es ep t) {x : Addr} {k : List Int} (hx : IsT P w s.heap k x) (hu : A.units < cLine) (hL : L.length = 63) {Q : Bool → Shared → Prop}
    (h0 : k ∈ L.map (·.2) → Q false s)
    (h1 : k ∉ L.map (·.2) → ∀ h' o es' ep' t', Heap.SameBut z s.heap h' → h'.get? z = some o → o.ExactSet → o.data = .set es' ep' t' → t'.fits es'.size = true → es'.size = 64 → Q true { s with heap := h' }) :
    wpAny (model P w) A (setAddHashed z (.ref x) (thash P w k)) Q E s := by
  obtain ⟨o, ho, hex, hd⟩ := R.ob
  have hsl := R.size
  have hroom := R.room
  unfold setAddHashed
  refine wpAny_holding ?_
  rw [show (100000 : Nat) = 99999 + 1 from rfl, setAddHashedIn_succ]
  refine wpAny_bind (wpAny_setState_of ho hd R.fits ?_)
  dsimp only
  refine wp_if_neg (by simp [byScan, Value.scannable]) ?_
  try refine wpAny_bind (wpAny_pure ?_)
  refine wpAny_bind (search_at R hx hu (fun hm => ?_) fun K hm hK hb => ?_)
  · dsimp only
    exact wpAny_pure (h0 hm)
  · dsimp only
    refine wpAny_bind (wpAny_setState_of ho hd R.fits ?_)
    dsimp only
    have m127 : t.mask = 127 := by
      rcases R.tab.mok with e | e | e
      · omega
      · omega
      · exact e
    obtain ⟨q1, q2, q3, q4, q5, q6, q7, q8, q9⟩ := R.tab.put hK hb
    have pl : (t.put (way t.mask (thash P w k) K)).1.plain = true := by rw [q6]; exact R.plain
    generalize hpt : t.put (way t.mask (thash P w k) K) = pt at q1 q3 q4 q5 q6 q7 q8 q9 pl ⊢
    obtain ⟨t1, p⟩ := pt
    dsimp only at q1 q3 q4 q5 q6 q7 q8 q9 pl ⊢
    subst q1
    first
      | (refine wpAny_bind ?_; refine wp_if_pos pl ?_; refine hashBy_tup hx ?_)
      | refine wp_if_pos pl (wpAny_bind (hashBy_tup hx ?_))
    simp only [if_true]
    have sz : (SetTable.insertAt es (SetTable.below t.place (way t.mask (thash P w k) K)) (thash P w k, Value.ref x)).size = 64 := by
      have := congrArg List.length (SetTable.toList_insertAt es (SetTable.below t.place (way t.mask (thash P w k) K)) (thash P w k, Value.ref x))
      rw [Array.length_toList, List.length_append, List.length_cons, List.length_take, List.length_drop, Array.length_toList] at this
      rw [List.length_map] at q2
      omega
    generalize SetTable.insertAt es (SetTable.below t.place (way t.mask (thash P w k) K)) (thash P w k, Value.ref x) = es1 at sz ⊢
    refine wpAny_bind (wpAny_storeSet_of ho hd ?_ (by rw [sz, sizeLine_eq]; omega))
    have fl : t1.fill = 64 := by rw [q9, List.length_map, hL]
    refine wp_if_neg (by
      have : t1.tooFull = false := by
        unfold SetTable.tooFull
        rw [fl, q4, m127]; rfl
      rw [this]; simp) ?_
    try refine wpAny_bind (wpAny_pure ?_)
    refine wpAny_pure (h1 hm _ _ es1 (ep + 1) t1 (Heap.SameBut.update ..) (store_at ho hd) ⟨hex.1, hex.2.1, hex.2.2⟩ rfl ?_ sz)
    unfold SetTable.fits
    rw [sz, Bool.and_eq_true, beq_iff_eq, decide_eq_true_eq]
    refine ⟨?_, by rw [fl, q4, m127]; decide⟩
    have := q3.sz
    rw [List.length_append, List.length_cons, List.length_take, List.length_drop, List.length_map] at this
    rw [List.length_map] at q2
    omega
theorem add_any {ks : List (Addr × List Int)} {i : Nat} {x : Addr} {k : List Int} (R : Got2 P w s.heap z ks i) (hi : i < 64) (hp : ks[i]? = some (x, k)) (hx : IsT P w s.heap k x) (hu : A.units < cLine) {Q : Bool → Shared → Prop}
    (hQ : ∀ b h', Heap.SameBut z s.heap h' → Got2 P w h' z ks (i + 1) → Q b { s with heap := h' }) : wpAny (model P w) A (setAddHashed z (.ref x) (thash P w k)) Q E s := by
  obtain ⟨L, o, es, ep, t, g, nd, ho, hex, hd, hf, hsz, hR⟩ := R
  have hl : L.length ≤ i := g.len
  have R := hR (by omega)
  by_cases c : L.length + 1 < 64
  · refine add_at R hx hu c fun b h' L' es' ep' t' sb R' c1 c2 => hQ b h' sb (got_of s R' ?_)
    by_cases m : k ∈ L.map (·.2)
    · rw [c1 m]; exact g.same hp m
    · exact g.more hp (c2 m)
  · have hL : L.length = 63 := by omega
    refine add_last R hx hu hL (fun m => ?_) fun m h' o' es' ep' t' sb ho' hex' hd' hf' hs' => ?_
    · exact hQ false s.heap (Heap.SameBut.refl ..) ⟨L, o, es, ep, t, g.same hp m, nd, ho, hex, hd, hf, hsz, hR⟩
    · refine hQ true h' sb ⟨(x, k) :: L, o', es', ep', t', g.more hp (List.Perm.refl _), ?_, ho', hex', hd', hf', by rw [hs', List.length_cons]; omega, fun q => ?_⟩
      · rw [List.map_cons]; exact List.nodup_cons.mpr ⟨m, nd⟩
      · rw [List.length_cons] at q; omega
theorem Got2.keep {h h' : Heap} {ks : List (Addr × List Int)} {i : Nat} (R : Got2 P w h z ks i) (hz : ∀ o, h.get? z = some o → h'.get? z = some o) (ht : ∀ p ∈ ks, IsT P w h' p.2 p.1) : Got2 P w h' z ks i := by
  obtain ⟨L, o, es, ep, t, g, nd, ho, hex, hd, hf, hsz, hR⟩ := R
  exact ⟨L, o, es, ep, t, g, nd, hz o ho, hex, hd, hf, hsz, fun q => (hR q).keep hz fun p hp => ht p (List.mem_of_mem_take (g.sub p hp))⟩
/-- set.update's loop over the tuples -/
theorem loop_tups {I : Addr} {fp wr : List Addr} {G : Array GenState → Array GenState → Prop} {n : Nat} {Pv : Nat → Value → Prop} {St : Nat → Shared → Prop} {R : Result → Shared → Prop}
    (W : WalksS P w A.in1 I fp wr G n Pv St) (hzf : z ∉ fp) (ks : List (Addr × List Int)) (hn : n = ks.length) (h64 : n ≤ 64) (hval : ∀ i v, Pv i v → ∃ p, ks[i]? = some p ∧ v = .ref p.1)
    (B : Heap) (hk : ∀ p ∈ ks, IsT P w B p.2 p.1) (hz0 : B.get? z = none) (hw0 : ∀ b ∈ wr, B.get? b = none) (hu : A.in1.units < cLine) :
    ∀ (m i : Nat) (s : Shared), i + m = n → St i s → (∀ b o, B.get? b = some o → s.heap.get? b = some o) → Got2 P w s.heap z ks i →
      (∀ s', Moved (z :: wr) G s s' → Got2 P w s'.heap z ks n → (∀ b o, B.get? b = some o → s'.heap.get? b = some o) → R (.ok (.ret .none)) s') →
      codeAny (model P w) A (.builtin "set.update.loop" ⟨[.ref z, .ref I], []⟩) R s := by
  have hzw : z ∉ wr := fun h => hzf (W.sub _ h)
  have hsub : ∀ b ∈ wr, b ∈ z :: wr := fun b hb => List.mem_cons_of_mem _ hb
  have stays : ∀ {s s' : Shared}, Moved wr G s s' → (∀ b o, B.get? b = some o → s.heap.get? b = some o) → ∀ b o, B.get? b = some o → s'.heap.get? b = some o := fun hm hkp b o e =>
    hm.heap b o (fun hb => by rw [hw0 b hb] at e; cases e) (hkp b o e)
  intro m
  induction m with
  | zero =>
    intro i s hi hst hkp hG hR
    have e : i = n := by omega
    subst e
    refine codeAny_builtin F.entry_set_update_loop ?_
    rw [Around.under_plainId F.plain_set_update_loop _]
    show wpAny _ A.in1 (pyNext (.ref I) >>= _) _ _ s
    refine wpAny_bind (W.done s _ _ hst fun s' hm => ?_)
    show wpAny _ A.in1 (ret Value.none) _ _ s'
    have hkp' := stays hm hkp
    exact wpAny_pure (hR s' (hm.mono hsub) (hG.keep (fun o e => hm.heap z o hzw e) fun p hp => isT_keep (hk p hp) hkp') hkp')
  | succ m ih =>
    intro i s hi hst hkp hG hR
    have hlt : i < n := by omega
    refine codeAny_builtin F.entry_set_update_loop ?_
    rw [Around.under_plainId F.plain_set_update_loop _]
    show wpAny _ A.in1 (pyNext (.ref I) >>= _) _ _ s
    refine wpAny_bind (W.item i s _ _ hlt hst fun v s' hP hst' hm => ?_)
    obtain ⟨⟨x, k⟩, hp, rfl⟩ := hval i v hP
    have hkp' := stays hm hkp
    have hG' : Got2 P w s'.heap z ks i := hG.keep (fun o e => hm.heap z o hzw e) fun p hp => isT_keep (hk p hp) hkp'
    have hx : IsT P w s'.heap k x := isT_keep (hk (x, k) (List.mem_of_getElem? hp)) hkp'
    show wpAny _ A.in1 (holding [Value.ref x] (setAdd z (.ref x)) >>= _) _ _ s'
    refine wpAny_bind (wpAny_holding ?_)
    unfold setAdd
    refine wpAny_holding ?_
    refine wpAny_bind (wpAny_pyHash_tuple hu hx ?_)
    refine add_any (s := { s' with toks := s'.toks + (k.length + 1) }) hG' (by omega) hp hx hu fun b h' sb hG2 => ?_
    have hkp2 : ∀ b o, B.get? b = some o → h'.get? b = some o := fun b o e => (sb.2 b (fun y => by rw [y, hz0] at e; cases e)).trans (hkp' b o e)
    refine wpAny_pure ⟨plainId_quiet F.plain_set_update_loop _, ih (i + 1) _ (by omega) (W.frame _ s' _ _ hst' (Nat.le_add_right _ _) fun b hb o e => ?_) hkp2 hG2 fun s2 hm2 hG3 hkp3 => ?_⟩
    · rw [sb.2 b (fun h : b = z => hzf (by rw [← h]; exact hb))]; exact e
    · refine hR s2 (Moved.trans W.gtrans ((hm.mono hsub).then_heap (Nat.le_add_right _ _) fun b o hb e => ?_) hm2) hG3 hkp3
      rw [sb.2 b (fun h : b = z => hb (by rw [h]; exact List.mem_cons_self))]; exact e
abbrev newO7 (w : World) : Obj := { cls := .type "set", dict := none, data := .set #[] 0 (.fresh 0 0 (!w.params.followText "set-order")) }
/-- set(xs) -/
theorem set_tups64 {l : Addr} {items : Array Value} (ks : List (Addr × List Int)) {Q : Value → Shared → Prop} (hh : A.handled = none) (hl : s.heap.IsList l items) (hit : items.toList = ks.map fun p => Value.ref p.1)
    (hk : ∀ p ∈ ks, IsT P w s.heap p.2 p.1) (h64 : ks.length ≤ 64) (hu : A.units + 3 < cLine)
    (hQ : ∀ (h' : Heap) (tk : Nat), Got2 P w h' s.heap.objs.size ks ks.length → (∀ b o, s.heap.get? b = some o → h'.get? b = some o) → Q (.ref s.heap.objs.size) { s with heap := h', toks := tk }) :
    wpAny (model P w) A (call (.type "set") [.ref l]) Q E s := by
  have isz : items.size = ks.length := by
    have q := congrArg List.length hit
    rw [Array.length_toList, List.length_map] at q
    exact q
  obtain ⟨c, tl, hmro⟩ := F.called_set.mro
  have hmade := F.called_set.made
  have hsub := F.called_set.sub
  refine wpAny_call (codeAny_of_tree ?_)
  show wpAny _ _ (callAny (.type "set") _) _ _ _
  refine wpAny_pure ⟨Code.quiet_builtin _ (by decide +kernel), codeAny_builtin F.entry_type_call ?_⟩
  rw [Around.under_plain (weight_type_call_type "set" [.ref l] []) rfl]
  have k1 := F.called_set.notType
  have k2 := F.called_set.canCreate
  have k3 := F.typeCall_set_1 (.ref l)
  repeat (any_goals (first | assumption | wp_step))
  refine codeAny_mono (code_set_led1 (.ref l) (E := E) (Q₁ := fun obj s1 => obj = .ref s.heap.objs.size ∧ s1 = { s with heap := s.heap.push (newO7 w) }) ⟨rfl, rfl⟩) fun r s1 hr => ?_
  cases r with
  | error e => exact hr
  | ok fl =>
    cases fl with
    | ret obj =>
      obtain ⟨rfl, rfl⟩ := hr
      have hS : (s.heap.push (newO7 w)).get? s.heap.objs.size = some (newO7 w) := Heap.get?_push_size _ rfl
      have hT : Shared.TypeIs { s with heap := s.heap.push (newO7 w) } (.ref s.heap.objs.size) "set" := ⟨_, hS, rfl⟩
      have k4 := F.called_set.init.lookup
      have k5 := F.called_set.init.bind (.ref s.heap.objs.size)
      repeat (any_goals (first | assumption | wp_step))
      refine codeAny_mono (codeAny_call_builtin (R := wants (fun r s2 => r = .none ∧ ∃ h' tk, s2 = { s with heap := h', toks := tk } ∧ Got2 P w h' s.heap.objs.size ks ks.length ∧ (∀ b o, s.heap.get? b = some o → h'.get? b = some o)) E) F.called_set.init.plain F.entry_set_init (check_set_init_1 hT ?_)) fun r2 s2 hr2 => ?_
      · obtain ⟨⟨oc, od, oda, osl⟩, hol, hcl, nl, hdl⟩ := hl
        simp only at hcl hdl
        subst hcl; subst hdl
        have hol' : (s.heap.push (newO7 w)).get? l = some { cls := .type "list", dict := od, data := .seq items nl, slots := osl } := Heap.get?_push_of_some _ hol
        have f1 := F.sub_list_set
        have f2 := F.sub_list_frozenset
        have f3 : (Value.type "list" == Value.type "dict") = false := by decide
        have hl1 : (s.heap.push (newO7 w)).IsList l items := ⟨_, hol', rfl, nl, rfl⟩
        unfold Builtin.«set.__init__» noKeywords Builtin.Frozenset.updateFrom
        generalize hPI : pyIter = PI
        wp_walk
        subst hPI
        refine wpAny_pyIter_list hl1 ?_
        refine wpAny_bind (wpAny_runValue ?_)
        have hlS : l < s.heap.objs.size := Heap.lt_size hol
        have hh3 : A.in1.in1.in1.handled = none := by simp [hh]
        have sz1 : (s.heap.push (newO7 w)).objs.size = s.heap.objs.size + 1 := Heap.size_push ..
        have neI : l ≠ (s.heap.push (newO7 w)).objs.size := by rw [sz1]; exact Nat.ne_of_lt (Nat.lt_succ_of_lt hlS)
        have nef : s.heap.objs.size ∉ [(s.heap.push (newO7 w)).objs.size, l] := by
          rw [sz1]
          simp only [List.mem_cons, List.not_mem_nil, or_false, not_or]
          exact ⟨Nat.ne_of_lt (Nat.lt_succ_self _), Nat.ne_of_gt hlS⟩
        have hval : ∀ (i : Nat) (v : Value), items[i]? = some v → ∃ p, ks[i]? = some p ∧ v = .ref p.1 := fun i v hv => by
          have q : items.toList[i]? = some v := by rw [Array.getElem?_toList]; exact hv
          rw [hit, List.getElem?_map] at q
          obtain ⟨p, e1, e2⟩ := Option.map_eq_some_iff.mp q
          exact ⟨p, e1, e2.symm⟩
        have none_of : ∀ b, s.heap.objs.size ≤ b → s.heap.get? b = none := fun b hb => by
          cases q : s.heap.get? b with
          | none => rfl
          | some o => exact absurd (Heap.lt_size q) (Nat.not_lt_of_le hb)
        refine loop_tups ((Walks.list hh3 _ l neI items).toS) nef ks isz (by omega) hval s.heap hk (none_of _ (Nat.le_refl _)) (fun b hb => none_of b (by
            rw [List.mem_singleton.mp hb, sz1]
            exact Nat.le_succ _)) hu items.size 0 _ (by omega)
          ⟨⟨_, Heap.get?_push_size _ rfl, rfl, rfl⟩, (hl1.push _)⟩ (fun b o e => Heap.get?_push_of_some _ (Heap.get?_push_of_some _ e)) ?st ?fin
        case st =>
          exact got_of s (setTR_fresh (Heap.get?_push_of_some _ hS)) (Got.zero ks)
        case fin =>
          intro s' hm hG hkp
          obtain ⟨h', g2, d', tk', os'⟩ := s'
          have eg : g2 = s.gens := hm.gens
          have ed : d' = s.drawn := hm.drawn
          have eo : os' = s.os := hm.os
          subst eg; subst ed; subst eo
          show wpAny _ _ _ _ _ _
          refine wpAny_pure ?_
          show wpAny _ _ (ret Value.none) _ _ _
          rw [isz] at hG
          exact wpAny_pure ⟨rfl, h', tk', rfl, hG, hkp⟩
      · cases r2 with
        | error e => exact hr2
        | ok fl2 =>
          cases fl2 with
          | ret r =>
            obtain ⟨rfl, h', tk, rfl, hG, hk'⟩ := hr2
            repeat (any_goals (first | assumption | wp_step))
            exact hQ _ _ hG hk'
          | _ => exact hr2.elim
    | _ => exact hr.elim
end
def tLenSetP (K : PySem.W.Frag) (ta : TE) : TE := fun σ H Q => ta σ H fun x H1 => ∃ (l : Addr) (as : List Addr) (ps : List (Int × Int)), x = .ref l ∧ SqL K H1 l (as.map V.ref) ∧
  Paired (fun a p => H1 a = some (.tup [.int p.1, .int p.2])) as ps ∧ as.length ≤ 64 ∧ ∀ n : Nat, n ≤ ps.length → (n = ps.length ↔ ps.Nodup) → Q (.int n) H1
theorem nodup_map_of {α β : Type} {f : α → β} {l : List α} (h : (l.map f).Nodup) : l.Nodup := List.Pairwise.of_map f (fun _ _ hne e => hne (congrArg f e)) h
theorem nodup_map_inj {α β : Type} {f : α → β} (inj : ∀ x y, f x = f y → x = y) {l : List α} (h : l.Nodup) : (l.map f).Nodup := List.pairwise_map.mpr (h.imp fun hne e => hne (inj _ _ e))
theorem sub_erase {α : Type} [DecidableEq α] {x : α} {l D : List α} (nd : (x :: l).Nodup) (hs : ∀ y ∈ x :: l, y ∈ D) : x ∈ D ∧ l.Nodup ∧ ∀ y ∈ l, y ∈ D.erase x := by
  obtain ⟨n1, n2⟩ := List.nodup_cons.mp nd
  exact ⟨hs x List.mem_cons_self, n2, fun y hy => (List.mem_erase_of_ne (fun e => n1 (by rw [← e]; exact hy))).2 (hs y (List.mem_cons_of_mem _ hy))⟩
theorem sub_len {α : Type} [DecidableEq α] : ∀ (l D : List α), l.Nodup → (∀ x ∈ l, x ∈ D) → l.length ≤ D.length
  | [], _, _, _ => Nat.zero_le _
  | x :: l, D, nd, hs => by
    obtain ⟨a, b, c⟩ := sub_erase nd hs
    have := sub_len l (D.erase x) b c
    rw [List.length_erase_of_mem a] at this
    have := List.length_pos_of_mem a
    rw [List.length_cons]; omega
theorem sub_perm {α : Type} [DecidableEq α] : ∀ (l D : List α), l.Nodup → (∀ x ∈ l, x ∈ D) → D.length ≤ l.length → l.Perm D
  | [], D, _, _, h => by
    rw [List.eq_nil_of_length_eq_zero (Nat.le_zero.mp h)]
  | x :: l, D, nd, hs, h => by
    obtain ⟨a, b, c⟩ := sub_erase nd hs
    have p := sub_perm l (D.erase x) b c (by rw [List.length_erase_of_mem a]; rw [List.length_cons] at h; omega)
    exact (p.cons x).trans (List.perm_cons_erase a).symm
/-- of a list of keys: as many as there are of different ones -/
theorem count_keys {ks L : List (Addr × List Int)} (g : Got ks ks.length L) (nd : (L.map (·.2)).Nodup) : L.length ≤ ks.length ∧ (L.length = ks.length ↔ (ks.map (·.2)).Nodup) := by
  have hle : L.length ≤ ks.length := g.len
  refine ⟨hle, fun e => ?_, fun hn => ?_⟩
  · -- the different ones are a part of all, and as many
    have hs : ∀ k ∈ L.map (·.2), k ∈ ks.map (·.2) := fun k hk => by
      obtain ⟨p, hp, rfl⟩ := List.mem_map.mp hk
      exact List.mem_map.mpr ⟨p, List.mem_of_mem_take (g.sub p hp), rfl⟩
    have pm := sub_perm _ _ nd hs (by rw [List.length_map, List.length_map, e]; exact Nat.le_refl _)
    exact pm.nodup_iff.mp nd
  · have hs : ∀ k ∈ ks.map (·.2), k ∈ L.map (·.2) := fun k hk => by
      obtain ⟨p, hp, rfl⟩ := List.mem_map.mp hk
      exact g.all p (by rw [List.take_length]; exact hp)
    have := sub_len _ _ hn hs
    rw [List.length_map, List.length_map] at this
    omega
section
variable {X : Cx}
theorem pe_lenSetP {a : Expr} {ta : TE} {p p2 q pos : Pos} (hc : X.calm = true) (hu : X.A.units + 64 < cLine) (hm : X.mg "len" = none) (hm2 : X.mg "set" = none) (h : PE X a ta) (hg : Gl X "len" := by rfl) (hg2 : Gl X "set" := by rfl)
    (na : starEach [a] X.env = (false, eval a X.env) :: starEach [] X.env := by rfl) :
    PE X (.Call (.Name "len" p) [.Call (.Name "set" p2) [a] [] q] [] pos) (tLenSetP X.K ta) := by
  refine ⟨fun pins s σ H Q I h' => ?_⟩
  refine Call_ (ld_blt I hg hm PySem.boot_len ?_)
  refine PyProof.Rows.callWith_builtin1 (PyProof.Rows.args_cons ?_ rfl) rfl rfl
  refine Call_ (ld_blt I hg2 hm2 PyProof.Rows.boot_set ?_)
  refine PyProof.Rows.callWith_type1 (PyProof.Rows.args_cons (thn (h.run pins s σ H _ I h') fun v s1 ⟨x, H1, I1, r1, q1⟩ => PyProof.Rows.args_nil ?_) na) na rfl
  obtain ⟨l, as, ps, rfl, hq, hp, h64, q1⟩ := q1
  cases r1
  obtain ⟨its, r, pl, hz⟩ := I1.list hq
  have hl : as.length = ps.length := Paired.length hp
  -- the places as keys
  obtain ⟨ks, e1, e2, e3⟩ : ∃ ks : List (Addr × List Int), ks.map (·.1) = as ∧ ks.map (·.2) = ps.map (fun p => [p.1, p.2]) ∧ ∀ p ∈ ks, H1 p.1 = some (.tup (p.2.map V.int)) := by
    clear q1 hl h64 r hq hz
    induction hp with
    | nil => exact ⟨[], rfl, rfl, fun p hp => by cases hp⟩
    | @cons a b as ps h1 h2 ih =>
      obtain ⟨ks, a1, a2, a3⟩ := ih
      refine ⟨(a, [b.1, b.2]) :: ks, by rw [List.map_cons, a1], by rw [List.map_cons, List.map_cons, a2], fun p hp => ?_⟩
      rcases List.mem_cons.mp hp with rfl | hp
      · exact h1
      · exact a3 p hp
  have hlk : ks.length = as.length := by rw [← e1, List.length_map]
  have hit : its.toArray.toList = ks.map fun p => Value.ref p.1 := by
    have r' : Vals (ks.map fun p => V.ref p.1) its := by
      have : as.map V.ref = ks.map fun p => V.ref p.1 := by rw [← e1, List.map_map]; rfl
      rw [← this]; exact r
    simpa using refs_of_vals r'
  refine set_tups64 ks (I1.ok.hd hc) pl.isList hit (fun p hp => I1.isT (.inl (.inl (e3 p hp)))) (by omega) (by omega) fun h2 tk G hk => ?_
  obtain ⟨L, o, es, ep, t, g, nd, ho, hex, hd, hf, hsz, _⟩ := G
  refine PyProof.Rows.args_nil ?_
  have I2 : Inv X pins σ H1 { s1 with heap := h2, toks := tk } := I1.kept hk
  obtain ⟨c1, c2⟩ := count_keys g nd
  refine call_len_set ho hex hd hf (by rw [hsz]; omega) ⟨.int es.size, H1, I2.tok _, ⟨_, rfl⟩, ?_⟩
  refine q1 es.size (by omega) ?_
  rw [hsz, ← hl, ← hlk, c2, e2]
  refine ⟨fun h => nodup_map_of h, fun h => nodup_map_inj (fun x y e => ?_) h⟩
  obtain ⟨x1, x2⟩ := x
  obtain ⟨y1, y2⟩ := y
  simp only [List.cons.injEq, and_true] at e
  rw [e.1, e.2]
end
end Wk
end
/-! ### WRules -/
section
set_option Elab.async false
set_option linter.all false
set_option maxRecDepth 100000
set_option maxHeartbeats 2000000
namespace Wk
open PySem PySem.Spec PyProof.Rows L2
/-! Rules that the layer lacks -/
/-- a written dict of whole numbers -/
def Wrote : List DictEntry → List (Int × V) → Prop
  | [], [] => True
  | e :: r, p :: q => (∃ t, e.key = Value.int p.1 t) ∧ e.hash = hashInt p.1 ∧ RelV p.2 e.val ∧ Wrote r q
  | _, _ => False
def WDict (K : PySem.W.Frag) (d : Addr) (kvs : List (Int × V)) : Prop := ∃ (es : Array DictEntry) (n : Nat), K.lookup d = some ⟨.type "dict", none, .dict es n, #[]⟩ ∧ Wrote es.toList kvs
theorem Wrote.keys : ∀ {es : List DictEntry} {kvs : List (Int × V)}, Wrote es kvs → ∀ e ∈ es, ∃ k t, e.key = Value.int k t ∧ e.hash = hashInt k
  | [], _, _, e, h => by cases h
  | _ :: _, [], w, _, _ => w.elim
  | e0 :: r, p :: q, w, e, h => by
    rcases List.mem_cons.mp h with z | z
    · obtain ⟨⟨t, a⟩, b, _⟩ := w
      exact ⟨p.1, t, by rw [z]; exact a, by rw [z]; exact b⟩
    · exact Wrote.keys w.2.2.2 e z
theorem Wrote.get {k : Int} {v : V} : ∀ {es : List DictEntry} {kvs : List (Int × V)}, Wrote es kvs → kvs.lookup k = some v → ∃ u, (es.find? fun e => Value.isInt k e.key).map (·.val) = some u ∧ RelV v u
  | [], [], _, h => by cases h
  | [], _ :: _, w, _ => w.elim
  | _ :: _, [], w, _ => w.elim
  | e0 :: r, p :: q, w, h => by
    obtain ⟨⟨t, a⟩, _, c, d⟩ := w
    obtain ⟨i, x⟩ := p
    have ek : Value.isInt k e0.key = decide (i = k) := by
      rw [a]; show (i == k) = _
      exact rfl
    rw [List.lookup_cons] at h
    rw [List.find?_cons, ek]
    by_cases z : i = k
    · rw [decide_eq_true z]
      rw [beq_iff_eq.mpr z.symm] at h
      cases h
      exact ⟨_, rfl, c⟩
    · rw [decide_eq_false z]
      rw [beq_eq_false_iff_ne.mpr (fun q => z q.symm)] at h
      exact Wrote.get d h
def rWix (d : Addr) (kvs : List (Int × V)) : R2 := fun x y H Q => ∃ (k : Int) (v : V), x = .ref d ∧ y = .int k ∧ kvs.lookup k = some v ∧ Q v H
section
variable {X : Cx}
theorem ix_w {d : Addr} {kvs : List (Int × V)} (W : WDict X.K d kvs) : IxR X (rWix d kvs) := by
  intro ve se pins s σ H x y v u Q I rx ry h hs
  obtain ⟨k, z, rfl, rfl, hk, q⟩ := h
  cases rx
  obtain ⟨t, rfl⟩ := ry
  obtain ⟨es, n, hl, hw⟩ := W
  have hm : s.heap.MapOf (intKind X.prog X.w) d (fun k => findBy (intKind X.prog X.w).is es k) := ⟨_, es, n, I.kIn _ _ hl, ⟨rfl, rfl, rfl⟩, rfl, fun e he => by
    obtain ⟨k, t, e1, e2⟩ := hw.keys e (Array.mem_toList_iff.mpr he)
    exact ⟨k, by rw [e1]; exact intKind_is X.prog X.w k t, e2⟩, fun _ => rfl⟩
  obtain ⟨u0, e0, r0⟩ := hw.get hk
  have hf : findBy (intKind X.prog X.w).is es k = some u0 := by
    obtain ⟨l⟩ := es
    unfold findBy
    rw [List.find?_toArray]
    exact e0
  exact tail_any hm.typeIs slot_dict_getitem.lookup (wpAny_getItem_of (intKind_is X.prog X.w k t) hm hf ⟨z, H, I.tok _, r0, q⟩) hs
theorem pe_fldK {K : PySem.W.Frag} {e : Expr} {f : Str} {ta : TE} {pos : Pos} (hK : X.K = K) (he : PE X e ta) (hb : attributeBase e f X.env (eval e X.env) = eval e X.env) : PE X (.Attribute e f pos) (tFld K ta f) := by
  subst hK; exact pe_fld he hb
theorem pg_tupK {K : PySem.W.Frag} {es : List Expr} {k : Nat} {pos : Pos} {t : TGs} {n : Nat} (hK : X.K = K) (hc : X.calm = true) (h : PGs X es t)
    (hn : (assignEach es X.env).length = n := by rfl) (hst : (assignEach es X.env).findIdx? (·.1) = none := by rfl) : PG X (.Tuple es k pos) (gTup K n t) := by
  subst hK; exact pg_tup hc h hn hst
theorem pe_mk0 {k j : Nat} {C : Addr} {x : Str} {sp : Sp} {dvs : List V} {p pos : Pos} (c : C8.Mak X.prog X.w X.K X.mg X.base k x C sp dvs) (hr : Room j X.A) (hk : k + 1 ≤ j) (hg : Gl X x) (hdb : (x == ("__debug__" : Str)) = false := by decide) :
    PE X (.Call (.Name x p) [] [] pos) (tMake C sp dvs C8.E0 tNil) := by
  obtain ⟨f, fd, ps, ds, M, F, hm, b, d⟩ := c.ex
  exact pe_make0 M F (hr.mono hk) hg hm b d C8.pass0 hdb
end
end Wk
end
/-! ### WTxt -/
section
set_option Elab.async false
set_option linter.all false
set_option maxRecDepth 100000
set_option maxHeartbeats 2000000
namespace Wk
open PySem PySem.Spec PyProof.Rows L2
def top (i : Nat) : Stmt := PySem.Challenge.pw_landeditions_s01_answers.main.body.getD i (.Pass ⟨0, 0, 0, 0⟩)
/-- where the classes, the tuples and the dicts of the top stand -/
structure Ad where
  aPut : Addr
  aOut : Addr
  aIssue : Addr
  aLogbook : Addr
  aFeature : Addr
  aNORTHERN : Addr
  aEASTERN : Addr
  aSHAPE_WORDS : Addr
  aNO_SIGNS : Addr
  aDEEDS : Addr
  aNUMBERS : Addr
  aROWS : Addr
  deeds : List (Int × V)
structure Txt (K : PySem.W.Frag) (mg : Str → Option Value) (A : Ad) : Prop where
  isinstance : mg "isinstance" = none
  len : mg "len" = none
  list : mg "list" = none
  max : mg "max" = none
  min : mg "min" = none
  ord : mg "ord" = none
  range : mg "range" = none
  reversed : mg "reversed" = none
  set : mg "set" = none
  sorted : mg "sorted" = none
  sum : mg "sum" = none
  tuple : mg "tuple" = none
  g_Put : ∃ u, mg "Put" = some u ∧ RelV (.ref A.aPut) u
  cl_Put : Cls K A.aPut
  g_Out : ∃ u, mg "Out" = some u ∧ RelV (.ref A.aOut) u
  cl_Out : Cls K A.aOut
  g_Issue : ∃ u, mg "Issue" = some u ∧ RelV (.ref A.aIssue) u
  cl_Issue : Cls K A.aIssue
  g_Logbook : ∃ u, mg "Logbook" = some u ∧ RelV (.ref A.aLogbook) u
  cl_Logbook : Cls K A.aLogbook
  g_Feature : ∃ u, mg "Feature" = some u ∧ RelV (.ref A.aFeature) u
  cl_Feature : Cls K A.aFeature
  g_LAST_DAY : ∃ u, mg "LAST_DAY" = some u ∧ RelV (.int 99999) u
  g_MOST_ENTRIES : ∃ u, mg "MOST_ENTRIES" = some u ∧ RelV (.int 400) u
  g_LAND_SIDE : ∃ u, mg "LAND_SIDE" = some u ∧ RelV (.int 1000000) u
  g_LAST_SERIES : ∃ u, mg "LAST_SERIES" = some u ∧ RelV (.int 6) u
  g_GREAT_S : ∃ u, mg "GREAT_S" = some u ∧ RelV (.int 83) u
  g_SMALL_S : ∃ u, mg "SMALL_S" = some u ∧ RelV (.int 115) u
  g_DIGIT_ONE : ∃ u, mg "DIGIT_ONE" = some u ∧ RelV (.int 49) u
  g_DIGIT_FOUR : ∃ u, mg "DIGIT_FOUR" = some u ∧ RelV (.int 52) u
  g_DIGIT_ZERO : ∃ u, mg "DIGIT_ZERO" = some u ∧ RelV (.int 48) u
  g_BLANK_sheets : ∃ u, mg "BLANK_sheets" = some u ∧ RelV (.int 32) u
  g_NORTHERN : ∃ u, mg "NORTHERN" = some u ∧ RelV (.ref A.aNORTHERN) u
  w_NORTHERN : ∀ H : Hp, SqT K H A.aNORTHERN [.int 1, .int 2]
  g_EASTERN : ∃ u, mg "EASTERN" = some u ∧ RelV (.ref A.aEASTERN) u
  w_EASTERN : ∀ H : Hp, SqT K H A.aEASTERN [.int 2, .int 4]
  g_TOO_LONG : ∃ u, mg "TOO_LONG" = some u ∧ RelV (.int (-2)) u
  g_OUT_OF_BOUNDS : ∃ u, mg "OUT_OF_BOUNDS" = some u ∧ RelV (.int (-1)) u
  g_CODE_FAULT : ∃ u, mg "CODE_FAULT" = some u ∧ RelV (.int (-6)) u
  g_NO_SUCH : ∃ u, mg "NO_SUCH" = some u ∧ RelV (.int (-4)) u
  g_FULL : ∃ u, mg "FULL" = some u ∧ RelV (.int (-7)) u
  g_NOT_NOW : ∃ u, mg "NOT_NOW" = some u ∧ RelV (.int (-5)) u
  g_NOTHING_THERE : ∃ u, mg "NOTHING_THERE" = some u ∧ RelV (.int (-3)) u
  g_LAST_NUMBER : ∃ u, mg "LAST_NUMBER" = some u ∧ RelV (.int 9999) u
  g_LONGEST_CODE : ∃ u, mg "LONGEST_CODE" = some u ∧ RelV (.int 32) u
  g_SPOT : ∃ u, mg "SPOT" = some u ∧ RelV (.int 0) u
  g_LINE : ∃ u, mg "LINE" = some u ∧ RelV (.int 1) u
  g_AREA : ∃ u, mg "AREA" = some u ∧ RelV (.int 2) u
  g_MOST_SHEETS : ∃ u, mg "MOST_SHEETS" = some u ∧ RelV (.int 64) u
  g_NEW : ∃ u, mg "NEW" = some u ∧ RelV (.int 1) u
  g_ANOTHER : ∃ u, mg "ANOTHER" = some u ∧ RelV (.int 2) u
  g_GONE : ∃ u, mg "GONE" = some u ∧ RelV (.int 3) u
  g_SHAPE_WORDS : ∃ u, mg "SHAPE_WORDS" = some u ∧ RelV (.ref A.aSHAPE_WORDS) u
  w_SHAPE_WORDS : ∀ H : Hp, SqT K H A.aSHAPE_WORDS [.str "spot", .str "line", .str "area"]
  g_QUOTE : ∃ u, mg "QUOTE" = some u ∧ RelV (.int 34) u
  g_BLANK_texts : ∃ u, mg "BLANK_texts" = some u ∧ RelV (.int 32) u
  g_WENT : ∃ u, mg "WENT" = some u ∧ RelV (.int 2) u
  g_LONGEST_NAME : ∃ u, mg "LONGEST_NAME" = some u ∧ RelV (.int 40) u
  g_FIRST_SIGN : ∃ u, mg "FIRST_SIGN" = some u ∧ RelV (.int 32) u
  g_LAST_SIGN : ∃ u, mg "LAST_SIGN" = some u ∧ RelV (.int 126) u
  g_NO_SIGNS : ∃ u, mg "NO_SIGNS" = some u ∧ RelV (.ref A.aNO_SIGNS) u
  w_NO_SIGNS : ∀ H : Hp, SqT K H A.aNO_SIGNS [.int 34, .int 92]
  g_LAST_GROUP : ∃ u, mg "LAST_GROUP" = some u ∧ RelV (.int 31) u
  g_LAST_COORDINATE : ∃ u, mg "LAST_COORDINATE" = some u ∧ RelV (.int 999999) u
  g_MOST_PLACES : ∃ u, mg "MOST_PLACES" = some u ∧ RelV (.int 64) u
  g_MOST_FEATURES : ∃ u, mg "MOST_FEATURES" = some u ∧ RelV (.int 200) u
  g_DEEDS : ∃ u, mg "DEEDS" = some u ∧ RelV (.ref A.aDEEDS) u
  w_DEEDS : WDict K A.aDEEDS A.deeds
  g_NUMBERS : ∃ u, mg "NUMBERS" = some u ∧ RelV (.ref A.aNUMBERS) u
  w_NUMBERS : WDict K A.aNUMBERS [(1, .int 4), (2, .int 2), (3, .int 1), (4, .int 0), (5, .int 1), (6, .int 2), (7, .int 1), (8, .int 1), (9, .int 1), (10, .int 1), (11, .int 1), (12, .int 1), (13, .int 0), (14, .int 2), (15, .int 0), (16, .int 0)]
  g_ROWS : ∃ u, mg "ROWS" = some u ∧ RelV (.ref A.aROWS) u
  w_ROWS : WDict K A.aROWS [(1, .int 2), (2, .int 0), (3, .int 1), (4, .int 0), (5, .int 0), (6, .int 0), (7, .int 1), (8, .int 1), (9, .int 1), (10, .int 0), (11, .int 1), (12, .int 0), (13, .int 1), (14, .int 0), (15, .int 2), (16, .int 0)]
  n_Put_day : NoAttr K A.aPut "day"
  n_Put_number : NoAttr K A.aPut "number"
  n_Put_feature : NoAttr K A.aPut "feature"
  n_Put_was : NoAttr K A.aPut "was"
  n_Out_day : NoAttr K A.aOut "day"
  n_Out_number : NoAttr K A.aOut "number"
  n_Issue_day : NoAttr K A.aIssue "day"
  n_Issue_sheet : NoAttr K A.aIssue "sheet"
  n_Issue_features : NoAttr K A.aIssue "features"
  n_Logbook_entries : NoAttr K A.aLogbook "entries"
  n_Feature_group : NoAttr K A.aFeature "group"
  n_Feature_name : NoAttr K A.aFeature "name"
  n_Feature_kind : NoAttr K A.aFeature "kind"
  n_Feature_places : NoAttr K A.aFeature "places"
  n_Feature_box : NoAttr K A.aFeature "box"
  i_Put : C8.InsC K A.aPut
  k_Put_Put : PySem.W.kitOne K (.ref A.aPut) (.ref A.aPut) = some true
  k_Put_Out : PySem.W.kitOne K (.ref A.aPut) (.ref A.aOut) = some false
  k_Put_Issue : PySem.W.kitOne K (.ref A.aPut) (.ref A.aIssue) = some false
  i_Out : C8.InsC K A.aOut
  k_Out_Put : PySem.W.kitOne K (.ref A.aOut) (.ref A.aPut) = some false
  k_Out_Out : PySem.W.kitOne K (.ref A.aOut) (.ref A.aOut) = some true
  k_Out_Issue : PySem.W.kitOne K (.ref A.aOut) (.ref A.aIssue) = some false
  i_Issue : C8.InsC K A.aIssue
  k_Issue_Put : PySem.W.kitOne K (.ref A.aIssue) (.ref A.aPut) = some false
  k_Issue_Out : PySem.W.kitOne K (.ref A.aIssue) (.ref A.aOut) = some false
  k_Issue_Issue : PySem.W.kitOne K (.ref A.aIssue) (.ref A.aIssue) = some true
/-! the defs by places -/
/-! Put.__init__: slots 0 self, 1 day, 2 number, 3 feature, 4 was; level 1; cells [] -/
abbrev s_Put_init : Stmt := inClass (top 3) 0
abbrev N_Put_init : List Str := ["self", "day", "number", "feature", "was"]
theorem sc_Put_init : FnScope N_Put_init ["self", "day", "number", "feature", "was"] (C8.fnScope s_Put_init) := C8.fnScope_by (by decide +kernel)

/-! Out.__init__: slots 0 self, 1 day, 2 number; level 1; cells [] -/
abbrev s_Out_init : Stmt := inClass (top 4) 0
abbrev N_Out_init : List Str := ["self", "day", "number"]
theorem sc_Out_init : FnScope N_Out_init ["self", "day", "number"] (C8.fnScope s_Out_init) := C8.fnScope_by (by decide +kernel)

/-! Issue.__init__: slots 0 self, 1 day, 2 sheet, 3 features; level 1; cells [] -/
abbrev s_Issue_init : Stmt := inClass (top 5) 0
abbrev N_Issue_init : List Str := ["self", "day", "sheet", "features"]
theorem sc_Issue_init : FnScope N_Issue_init ["self", "day", "sheet", "features"] (C8.fnScope s_Issue_init) := C8.fnScope_by (by decide +kernel)

/-! Logbook.__init__: slots 0 self; level 1; cells [] -/
abbrev s_Logbook_init : Stmt := inClass (top 6) 0
abbrev N_Logbook_init : List Str := ["self"]
theorem sc_Logbook_init : FnScope N_Logbook_init ["self"] (C8.fnScope s_Logbook_init) := C8.fnScope_by (by decide +kernel)

/-! Logbook.enter: slots 0 self, 1 entry; level 1; cells [] -/
abbrev s_Logbook_enter : Stmt := inClass (top 6) 1
abbrev N_Logbook_enter : List Str := ["self", "entry"]
theorem sc_Logbook_enter : FnScope N_Logbook_enter ["self", "entry"] (C8.fnScope s_Logbook_enter) := C8.fnScope_by (by decide +kernel)

/-! Logbook.take_back: slots 0 self; level 1; cells [] -/
abbrev s_Logbook_take_back : Stmt := inClass (top 6) 2
abbrev N_Logbook_take_back : List Str := ["self"]
theorem sc_Logbook_take_back : FnScope N_Logbook_take_back ["self"] (C8.fnScope s_Logbook_take_back) := C8.fnScope_by (by decide +kernel)

/-! Logbook.is_full: slots 0 self; level 1; cells [] -/
abbrev s_Logbook_is_full : Stmt := inClass (top 6) 3
abbrev N_Logbook_is_full : List Str := ["self"]
theorem sc_Logbook_is_full : FnScope N_Logbook_is_full ["self"] (C8.fnScope s_Logbook_is_full) := C8.fnScope_by (by decide +kernel)

/-! Logbook.last_day: slots 0 self; level 1; cells [] -/
abbrev s_Logbook_last_day : Stmt := inClass (top 6) 4
abbrev N_Logbook_last_day : List Str := ["self"]
theorem sc_Logbook_last_day : FnScope N_Logbook_last_day ["self"] (C8.fnScope s_Logbook_last_day) := C8.fnScope_by (by decide +kernel)

/-! Logbook.up_to: slots 0 self, 1 day, 2 entry; level 1; cells ['day'] -/
abbrev s_Logbook_up_to : Stmt := inClass (top 6) 5
abbrev N_Logbook_up_to : List Str := ["self", "day", "entry"]
theorem sc_Logbook_up_to : FnScope N_Logbook_up_to ["self", "day"] (C8.fnScope s_Logbook_up_to) := C8.fnScope_by (by decide +kernel)

/-! code_fault: slots 0 code, 1 at; level 1; cells [] -/
abbrev s_code_fault : Stmt := top 18
abbrev N_code_fault : List Str := ["code", "at"]
theorem sc_code_fault : FnScope N_code_fault ["code"] (C8.fnScope s_code_fault) := C8.fnScope_by (by decide +kernel)

/-! sheet_of: slots 0 code, 1 byte; level 1; cells [] -/
abbrev s_sheet_of : Stmt := top 19
abbrev N_sheet_of : List Str := ["code", "byte"]
theorem sc_sheet_of : FnScope N_sheet_of ["code"] (C8.fnScope s_sheet_of) := C8.fnScope_by (by decide +kernel)

/-! code_bytes: slots 0 sheet, 1 quarter; level 1; cells [] -/
abbrev s_code_bytes : Stmt := top 20
abbrev N_code_bytes : List Str := ["sheet", "quarter"]
theorem sc_code_bytes : FnScope N_code_bytes ["sheet"] (C8.fnScope s_code_bytes) := C8.fnScope_by (by decide +kernel)

/-! quarters_of: slots 0 sheet, 1 quarter; level 1; cells ['sheet'] -/
abbrev s_quarters_of : Stmt := top 22
abbrev N_quarters_of : List Str := ["sheet", "quarter"]
theorem sc_quarters_of : FnScope N_quarters_of ["sheet"] (C8.fnScope s_quarters_of) := C8.fnScope_by (by decide +kernel)

/-! ground_of: slots 0 sheet, 1 west, 2 south, 3 side, 4 quarter; level 1; cells [] -/
abbrev s_ground_of : Stmt := top 23
abbrev N_ground_of : List Str := ["sheet", "west", "south", "side", "quarter"]
theorem sc_ground_of : FnScope N_ground_of ["sheet"] (C8.fnScope s_ground_of) := C8.fnScope_by (by decide +kernel)

/-! is_day: slots 0 day; level 1; cells [] -/
abbrev s_is_day : Stmt := top 34
abbrev N_is_day : List Str := ["day"]
theorem sc_is_day : FnScope N_is_day ["day"] (C8.fnScope s_is_day) := C8.fnScope_by (by decide +kernel)

/-! is_number: slots 0 number; level 1; cells [] -/
abbrev s_is_number : Stmt := top 35
abbrev N_is_number : List Str := ["number"]
theorem sc_is_number : FnScope N_is_number ["number"] (C8.fnScope s_is_number) := C8.fnScope_by (by decide +kernel)

/-! turn: slots 0 p, 1 q, 2 r; level 1; cells [] -/
abbrev s_turn : Stmt := top 41
abbrev N_turn : List Str := ["p", "q", "r"]
theorem sc_turn : FnScope N_turn ["p", "q", "r"] (C8.fnScope s_turn) := C8.fnScope_by (by decide +kernel)

/-! in_box: slots 0 p, 1 q, 2 r; level 1; cells [] -/
abbrev s_in_box : Stmt := top 42
abbrev N_in_box : List Str := ["p", "q", "r"]
theorem sc_in_box : FnScope N_in_box ["p", "q", "r"] (C8.fnScope s_in_box) := C8.fnScope_by (by decide +kernel)

/-! ways_of: slots 0 places, 1 at; level 1; cells ['places'] -/
abbrev s_ways_of : Stmt := top 47
abbrev N_ways_of : List Str := ["places", "at"]
theorem sc_ways_of : FnScope N_ways_of ["places"] (C8.fnScope s_ways_of) := C8.fnScope_by (by decide +kernel)

/-! box_of: slots 0 places, 1 east_numbers, 2 north_numbers, 3 x, 4 y; level 1; cells [] -/
abbrev s_box_of : Stmt := top 61
abbrev N_box_of : List Str := ["places", "east_numbers", "north_numbers", "x", "y"]
theorem sc_box_of : FnScope N_box_of ["places"] (C8.fnScope s_box_of) := C8.fnScope_by (by decide +kernel)

/-! alike: slots 0 one, 1 other; level 1; cells [] -/
abbrev s_alike : Stmt := top 62
abbrev N_alike : List Str := ["one", "other"]
theorem sc_alike : FnScope N_alike ["one", "other"] (C8.fnScope s_alike) := C8.fnScope_by (by decide +kernel)

/-! boxes_apart: slots 0 box, 1 ground; level 1; cells [] -/
abbrev s_boxes_apart : Stmt := top 63
abbrev N_boxes_apart : List Str := ["box", "ground"]
theorem sc_boxes_apart : FnScope N_boxes_apart ["box", "ground"] (C8.fnScope s_boxes_apart) := C8.fnScope_by (by decide +kernel)

/-! bytes_of: slots 0 text, 1 sign; level 1; cells [] -/
abbrev s_bytes_of : Stmt := top 75
abbrev N_bytes_of : List Str := ["text", "sign"]
theorem sc_bytes_of : FnScope N_bytes_of ["text"] (C8.fnScope s_bytes_of) := C8.fnScope_by (by decide +kernel)

/-! shape_text: slots 0 feature, 1 places, 2 x, 3 y; level 1; cells [] -/
abbrev s_shape_text : Stmt := top 76
abbrev N_shape_text : List Str := ["feature", "places", "x", "y"]
theorem sc_shape_text : FnScope N_shape_text ["feature"] (C8.fnScope s_shape_text) := C8.fnScope_by (by decide +kernel)

/-! counted: slots 0 numbers; level 1; cells [] -/
abbrev s_counted : Stmt := top 81
abbrev N_counted : List Str := ["numbers"]
theorem sc_counted : FnScope N_counted ["numbers"] (C8.fnScope s_counted) := C8.fnScope_by (by decide +kernel)

/-! is_name: slots 0 name, 1 byte; level 1; cells [] -/
abbrev s_is_name : Stmt := top 104
abbrev N_is_name : List Str := ["name", "byte"]
theorem sc_is_name : FnScope N_is_name ["name"] (C8.fnScope s_is_name) := C8.fnScope_by (by decide +kernel)

/-! are_places: slots 0 told, 1 number; level 1; cells [] -/
abbrev s_are_places : Stmt := top 105
abbrev N_are_places : List Str := ["told", "number"]
theorem sc_are_places : FnScope N_are_places ["told"] (C8.fnScope s_are_places) := C8.fnScope_by (by decide +kernel)

/-! rows_from: slots 0 calls, 1 start, 2 many, 3 rows, 4 at, 5 step, 6 end; level 1; cells [] -/
abbrev s_rows_from : Stmt := top 115
abbrev N_rows_from : List Str := ["calls", "start", "many", "rows", "at", "step", "end"]
theorem sc_rows_from : FnScope N_rows_from ["calls", "start", "many"] (C8.fnScope s_rows_from) := C8.fnScope_by (by decide +kernel)

/-! Logbook.land_of: slots 0 self, 1 day, 2 land, 3 entry; level 2; cells [] -/
abbrev s_Logbook_land_of : Stmt := inClass (top 6) 6
abbrev N_Logbook_land_of : List Str := ["self", "day", "land", "entry"]
theorem sc_Logbook_land_of : FnScope N_Logbook_land_of ["self", "day"] (C8.fnScope s_Logbook_land_of) := C8.fnScope_by (by decide +kernel)

/-! Logbook.issues: slots 0 self, 1 day, 2 entry; level 2; cells [] -/
abbrev s_Logbook_issues : Stmt := inClass (top 6) 7
abbrev N_Logbook_issues : List Str := ["self", "day", "entry"]
theorem sc_Logbook_issues : FnScope N_Logbook_issues ["self", "day"] (C8.fnScope s_Logbook_issues) := C8.fnScope_by (by decide +kernel)

/-! codes_told: slots 0 sheets, 1 told, 2 at; level 2; cells [] -/
abbrev s_codes_told : Stmt := top 21
abbrev N_codes_told : List Str := ["sheets", "told", "at"]
theorem sc_codes_told : FnScope N_codes_told ["sheets"] (C8.fnScope s_codes_told) := C8.fnScope_by (by decide +kernel)

/-! refusal: slots 0 in_bounds, 1 codes, 2 code, 3 fault; level 2; cells [] -/
abbrev s_refusal : Stmt := top 36
abbrev N_refusal : List Str := ["in_bounds", "codes", "code", "fault"]
theorem sc_refusal : FnScope N_refusal ["in_bounds", "codes"] (C8.fnScope s_refusal) := C8.fnScope_by (by decide +kernel)

/-! on_way: slots 0 p, 1 q, 2 r; level 2; cells [] -/
abbrev s_on_way : Stmt := top 43
abbrev N_on_way : List Str := ["p", "q", "r"]
theorem sc_on_way : FnScope N_on_way ["p", "q", "r"] (C8.fnScope s_on_way) := C8.fnScope_by (by decide +kernel)

/-! parted: slots 0 p, 1 q, 2 r, 3 s, 4 one, 5 other; level 2; cells [] -/
abbrev s_parted : Stmt := top 44
abbrev N_parted : List Str := ["p", "q", "r", "s", "one", "other"]
theorem sc_parted : FnScope N_parted ["p", "q", "r", "s"] (C8.fnScope s_parted) := C8.fnScope_by (by decide +kernel)

/-! goes_back: slots 0 a, 1 b, 2 c; level 2; cells [] -/
abbrev s_goes_back : Stmt := top 46
abbrev N_goes_back : List Str := ["a", "b", "c"]
theorem sc_goes_back : FnScope N_goes_back ["a", "b", "c"] (C8.fnScope s_goes_back) := C8.fnScope_by (by decide +kernel)

/-! sides_of: slots 0 ring; level 2; cells [] -/
abbrev s_sides_of : Stmt := top 48
abbrev N_sides_of : List Str := ["ring"]
theorem sc_sides_of : FnScope N_sides_of ["ring"] (C8.fnScope s_sides_of) := C8.fnScope_by (by decide +kernel)

/-! is_line: slots 0 places, 1 p, 2 q; level 2; cells [] -/
abbrev s_is_line : Stmt := top 53
abbrev N_is_line : List Str := ["places", "p", "q"]
theorem sc_is_line : FnScope N_is_line ["places"] (C8.fnScope s_is_line) := C8.fnScope_by (by decide +kernel)

/-! Feature.__init__: slots 0 self, 1 group, 2 name, 3 kind, 4 places; level 2; cells [] -/
abbrev s_Feature_init : Stmt := inClass (top 60) 0
abbrev N_Feature_init : List Str := ["self", "group", "name", "kind", "places"]
theorem sc_Feature_init : FnScope N_Feature_init ["self", "group", "name", "kind", "places"] (C8.fnScope s_Feature_init) := C8.fnScope_by (by decide +kernel)

/-! way_touches: slots 0 p, 1 q, 2 ground, 3 corners, 4 turns, 5 west, 6 south, 7 east, 8 north, 9 corner; level 2; cells ['p', 'q'] -/
abbrev s_way_touches : Stmt := top 64
abbrev N_way_touches : List Str := ["p", "q", "ground", "corners", "turns", "west", "south", "east", "north", "corner"]
theorem sc_way_touches : FnScope N_way_touches ["p", "q", "ground"] (C8.fnScope s_way_touches) := C8.fnScope_by (by decide +kernel)

/-! lies_within: slots 0 place, 1 sides, 2 inside, 3 p, 4 q, 5 side; level 2; cells [] -/
abbrev s_lies_within : Stmt := top 66
abbrev N_lies_within : List Str := ["place", "sides", "inside", "p", "q", "side"]
theorem sc_lies_within : FnScope N_lies_within ["place", "sides"] (C8.fnScope s_lies_within) := C8.fnScope_by (by decide +kernel)

/-! changes: slots 0 before, 1 after, 2 found, 3 number; level 2; cells [] -/
abbrev s_changes : Stmt := top 70
abbrev N_changes : List Str := ["before", "after", "found", "number"]
theorem sc_changes : FnScope N_changes ["before", "after"] (C8.fnScope s_changes) := C8.fnScope_by (by decide +kernel)

/-! feature_line: slots 0 number, 1 feature, 2 told; level 2; cells [] -/
abbrev s_feature_line : Stmt := top 77
abbrev N_feature_line : List Str := ["number", "feature", "told"]
theorem sc_feature_line : FnScope N_feature_line ["number", "feature"] (C8.fnScope s_feature_line) := C8.fnScope_by (by decide +kernel)

/-! tell_history: slots 0 log, 1 numbers, 2 rows, 3 number, 4 told, 5 entry; level 2; cells [] -/
abbrev s_tell_history : Stmt := top 90
abbrev N_tell_history : List Str := ["log", "numbers", "rows", "number", "told", "entry"]
theorem sc_tell_history : FnScope N_tell_history ["log", "numbers", "rows"] (C8.fnScope s_tell_history) := C8.fnScope_by (by decide +kernel)

/-! tell_last: slots 0 log, 1 numbers, 2 rows; level 2; cells [] -/
abbrev s_tell_last : Stmt := top 94
abbrev N_tell_last : List Str := ["log", "numbers", "rows"]
theorem sc_tell_last : FnScope N_tell_last ["log", "numbers", "rows"] (C8.fnScope s_tell_last) := C8.fnScope_by (by decide +kernel)

/-! put_in_bounds: slots 0 day, 1 number, 2 group, 3 kind; level 2; cells [] -/
abbrev s_put_in_bounds : Stmt := top 106
abbrev N_put_in_bounds : List Str := ["day", "number", "group", "kind"]
theorem sc_put_in_bounds : FnScope N_put_in_bounds ["day", "number", "group", "kind"] (C8.fnScope s_put_in_bounds) := C8.fnScope_by (by decide +kernel)

/-! undo: slots 0 log, 1 numbers, 2 rows; level 2; cells [] -/
abbrev s_undo : Stmt := top 110
abbrev N_undo : List Str := ["log", "numbers", "rows"]
theorem sc_undo : FnScope N_undo ["log", "numbers", "rows"] (C8.fnScope s_undo) := C8.fnScope_by (by decide +kernel)

/-! Logbook.editions: slots 0 self, 1 sheet, 2 day, 3 entry; level 3; cells ['sheet'] -/
abbrev s_Logbook_editions : Stmt := inClass (top 6) 8
abbrev N_Logbook_editions : List Str := ["self", "sheet", "day", "entry"]
theorem sc_Logbook_editions : FnScope N_Logbook_editions ["self", "sheet", "day"] (C8.fnScope s_Logbook_editions) := C8.fnScope_by (by decide +kernel)

/-! Logbook.latest_editions: slots 0 self, 1 day, 2 latest, 3 entry; level 3; cells [] -/
abbrev s_Logbook_latest_editions : Stmt := inClass (top 6) 9
abbrev N_Logbook_latest_editions : List Str := ["self", "day", "latest", "entry"]
theorem sc_Logbook_latest_editions : FnScope N_Logbook_latest_editions ["self", "day"] (C8.fnScope s_Logbook_latest_editions) := C8.fnScope_by (by decide +kernel)

/-! ways_meet: slots 0 a, 1 b, 2 c, 3 d; level 3; cells [] -/
abbrev s_ways_meet : Stmt := top 45
abbrev N_ways_meet : List Str := ["a", "b", "c", "d"]
theorem sc_ways_meet : FnScope N_ways_meet ["a", "b", "c", "d"] (C8.fnScope s_ways_meet) := C8.fnScope_by (by decide +kernel)

/-! twice_area: slots 0 ring, 1 p, 2 q; level 3; cells [] -/
abbrev s_twice_area : Stmt := top 51
abbrev N_twice_area : List Str := ["ring", "p", "q"]
theorem sc_twice_area : FnScope N_twice_area ["ring"] (C8.fnScope s_twice_area) := C8.fnScope_by (by decide +kernel)

/-! any_touches: slots 0 ways, 1 ground, 2 p, 3 q; level 3; cells [] -/
abbrev s_any_touches : Stmt := top 65
abbrev N_any_touches : List Str := ["ways", "ground", "p", "q"]
theorem sc_any_touches : FnScope N_any_touches ["ways", "ground"] (C8.fnScope s_any_touches) := C8.fnScope_by (by decide +kernel)

/-! sheet_text: slots 0 sheet, 1 edition, 2 day, 3 features, 4 told, 5 number; level 3; cells [] -/
abbrev s_sheet_text : Stmt := top 78
abbrev N_sheet_text : List Str := ["sheet", "edition", "day", "features", "told", "number"]
theorem sc_sheet_text : FnScope N_sheet_text ["sheet", "edition", "day", "features"] (C8.fnScope s_sheet_text) := C8.fnScope_by (by decide +kernel)

/-! tell_land: slots 0 log, 1 numbers, 2 rows, 3 day; level 3; cells [] -/
abbrev s_tell_land : Stmt := top 82
abbrev N_tell_land : List Str := ["log", "numbers", "rows", "day"]
theorem sc_tell_land : FnScope N_tell_land ["log", "numbers", "rows"] (C8.fnScope s_tell_land) := C8.fnScope_by (by decide +kernel)

/-! tell_feature: slots 0 log, 1 numbers, 2 rows, 3 land, 4 feature, 5 told, 6 day, 7 number, 8 x, 9 y; level 3; cells [] -/
abbrev s_tell_feature : Stmt := top 83
abbrev N_tell_feature : List Str := ["log", "numbers", "rows", "land", "feature", "told", "day", "number", "x", "y"]
theorem sc_tell_feature : FnScope N_tell_feature ["log", "numbers", "rows"] (C8.fnScope s_tell_feature) := C8.fnScope_by (by decide +kernel)

/-! take_out: slots 0 log, 1 numbers, 2 rows, 3 day, 4 number; level 3; cells [] -/
abbrev s_take_out : Stmt := top 108
abbrev N_take_out : List Str := ["log", "numbers", "rows", "day", "number"]
theorem sc_take_out : FnScope N_take_out ["log", "numbers", "rows"] (C8.fnScope s_take_out) := C8.fnScope_by (by decide +kernel)

/-! side_fits: slots 0 sides, 1 one, 2 other, 3 a, 4 b, 5 c, 6 d; level 4; cells [] -/
abbrev s_side_fits : Stmt := top 49
abbrev N_side_fits : List Str := ["sides", "one", "other", "a", "b", "c", "d"]
theorem sc_side_fits : FnScope N_side_fits ["sides", "one", "other"] (C8.fnScope s_side_fits) := C8.fnScope_by (by decide +kernel)

/-! leftwards: slots 0 ring; level 4; cells [] -/
abbrev s_leftwards : Stmt := top 52
abbrev N_leftwards : List Str := ["ring"]
theorem sc_leftwards : FnScope N_leftwards ["ring"] (C8.fnScope s_leftwards) := C8.fnScope_by (by decide +kernel)

/-! stands_on: slots 0 feature, 1 ground, 2 sides; level 4; cells [] -/
abbrev s_stands_on : Stmt := top 67
abbrev N_stands_on : List Str := ["feature", "ground", "sides"]
theorem sc_stands_on : FnScope N_stands_on ["feature", "ground"] (C8.fnScope s_stands_on) := C8.fnScope_by (by decide +kernel)

/-! tell_text: slots 0 log, 1 numbers, 2 rows, 3 edition, 4 refused, 5 sheet, 6 editions, 7 issued; level 4; cells [] -/
abbrev s_tell_text : Stmt := top 84
abbrev N_tell_text : List Str := ["log", "numbers", "rows", "edition", "refused", "sheet", "editions", "issued"]
theorem sc_tell_text : FnScope N_tell_text ["log", "numbers", "rows"] (C8.fnScope s_tell_text) := C8.fnScope_by (by decide +kernel)

/-! tell_editions: slots 0 log, 1 numbers, 2 rows, 3 refused, 4 entry; level 4; cells [] -/
abbrev s_tell_editions : Stmt := top 91
abbrev N_tell_editions : List Str := ["log", "numbers", "rows", "refused", "entry"]
theorem sc_tell_editions : FnScope N_tell_editions ["log", "numbers", "rows"] (C8.fnScope s_tell_editions) := C8.fnScope_by (by decide +kernel)

/-! tell_torn: slots 0 log, 1 numbers, 2 rows, 3 refused, 4 ones, 5 others, 6 changed, 7 number, 8 how; level 4; cells [] -/
abbrev s_tell_torn : Stmt := top 93
abbrev N_tell_torn : List Str := ["log", "numbers", "rows", "refused", "ones", "others", "changed", "number", "how"]
theorem sc_tell_torn : FnScope N_tell_torn ["log", "numbers", "rows"] (C8.fnScope s_tell_torn) := C8.fnScope_by (by decide +kernel)

/-! is_simple: slots 0 ring, 1 sides, 2 one, 3 other; level 5; cells [] -/
abbrev s_is_simple : Stmt := top 50
abbrev N_is_simple : List Str := ["ring", "sides", "one", "other"]
theorem sc_is_simple : FnScope N_is_simple ["ring"] (C8.fnScope s_is_simple) := C8.fnScope_by (by decide +kernel)

/-! features_on: slots 0 land, 1 sheet, 2 ground, 3 found, 4 number, 5 feature; level 5; cells [] -/
abbrev s_features_on : Stmt := top 68
abbrev N_features_on : List Str := ["land", "sheet", "ground", "found", "number", "feature"]
theorem sc_features_on : FnScope N_features_on ["land", "sheet"] (C8.fnScope s_features_on) := C8.fnScope_by (by decide +kernel)

/-! sheets_of: slots 0 feature, 1 series, 2 found, 3 step, 4 finer, 5 sheet, 6 part; level 5; cells ['feature'] -/
abbrev s_sheets_of : Stmt := top 69
abbrev N_sheets_of : List Str := ["feature", "series", "found", "step", "finer", "sheet", "part"]
theorem sc_sheets_of : FnScope N_sheets_of ["feature", "series"] (C8.fnScope s_sheets_of) := C8.fnScope_by (by decide +kernel)

/-! kept_places: slots 0 kind, 1 places; level 6; cells [] -/
abbrev s_kept_places : Stmt := top 54
abbrev N_kept_places : List Str := ["kind", "places"]
theorem sc_kept_places : FnScope N_kept_places ["kind", "places"] (C8.fnScope s_kept_places) := C8.fnScope_by (by decide +kernel)

/-! tell_now: slots 0 log, 1 numbers, 2 rows, 3 day, 4 refused, 5 sheet, 6 edition; level 6; cells [] -/
abbrev s_tell_now : Stmt := top 85
abbrev N_tell_now : List Str := ["log", "numbers", "rows", "day", "refused", "sheet", "edition"]
theorem sc_tell_now : FnScope N_tell_now ["log", "numbers", "rows"] (C8.fnScope s_tell_now) := C8.fnScope_by (by decide +kernel)

/-! changes_since: slots 0 log, 1 sheet, 2 day, 3 editions; level 6; cells [] -/
abbrev s_changes_since : Stmt := top 86
abbrev N_changes_since : List Str := ["log", "sheet", "day", "editions"]
theorem sc_changes_since : FnScope N_changes_since ["log", "sheet", "day"] (C8.fnScope s_changes_since) := C8.fnScope_by (by decide +kernel)

/-! tell_olds: slots 0 log, 1 numbers, 2 rows, 3 day, 4 land, 5 latest, 6 old, 7 sheet; level 6; cells [] -/
abbrev s_tell_olds : Stmt := top 88
abbrev N_tell_olds : List Str := ["log", "numbers", "rows", "day", "land", "latest", "old", "sheet"]
theorem sc_tell_olds : FnScope N_tell_olds ["log", "numbers", "rows"] (C8.fnScope s_tell_olds) := C8.fnScope_by (by decide +kernel)

/-! tell_sheets: slots 0 log, 1 numbers, 2 rows, 3 land, 4 found, 5 number, 6 series; level 6; cells [] -/
abbrev s_tell_sheets : Stmt := top 92
abbrev N_tell_sheets : List Str := ["log", "numbers", "rows", "land", "found", "number", "series"]
theorem sc_tell_sheets : FnScope N_tell_sheets ["log", "numbers", "rows"] (C8.fnScope s_tell_sheets) := C8.fnScope_by (by decide +kernel)

/-! issue: slots 0 log, 1 numbers, 2 rows, 3 day, 4 refused, 5 sheet, 6 features, 7 editions; level 6; cells [] -/
abbrev s_issue : Stmt := top 109
abbrev N_issue : List Str := ["log", "numbers", "rows", "day", "refused", "sheet", "features", "editions"]
theorem sc_issue : FnScope N_issue ["log", "numbers", "rows"] (C8.fnScope s_issue) := C8.fnScope_by (by decide +kernel)

/-! tell_old: slots 0 log, 1 numbers, 2 rows, 3 day, 4 refused, 5 changed; level 7; cells [] -/
abbrev s_tell_old : Stmt := top 87
abbrev N_tell_old : List Str := ["log", "numbers", "rows", "day", "refused", "changed"]
theorem sc_tell_old : FnScope N_tell_old ["log", "numbers", "rows"] (C8.fnScope s_tell_old) := C8.fnScope_by (by decide +kernel)

/-! tell_changes: slots 0 log, 1 numbers, 2 rows, 3 day, 4 refused, 5 changed, 6 told, 7 number, 8 how; level 7; cells [] -/
abbrev s_tell_changes : Stmt := top 89
abbrev N_tell_changes : List Str := ["log", "numbers", "rows", "day", "refused", "changed", "told", "number", "how"]
theorem sc_tell_changes : FnScope N_tell_changes ["log", "numbers", "rows"] (C8.fnScope s_tell_changes) := C8.fnScope_by (by decide +kernel)

/-! put: slots 0 log, 1 numbers, 2 rows, 3 land, 4 places, 5 was, 6 day, 7 number, 8 group, 9 kind, 10 told, 11 name, 12 at; level 7; cells ['told'] -/
abbrev s_put : Stmt := top 107
abbrev N_put : List Str := ["log", "numbers", "rows", "land", "places", "was", "day", "number", "group", "kind", "told", "name", "at"]
theorem sc_put : FnScope N_put ["log", "numbers", "rows"] (C8.fnScope s_put) := C8.fnScope_by (by decide +kernel)

/-! answers: slots 0 calls, 1 log, 2 told, 3 at, 4 word, 5 behind, 6 numbers, 7 deed, 8 answer, 9 rows; level 8; cells [] -/
abbrev s_answers : Stmt := top 116
abbrev N_answers : List Str := ["calls", "log", "told", "at", "word", "behind", "numbers", "deed", "answer", "rows"]
theorem sc_answers : FnScope N_answers ["calls"] (C8.fnScope s_answers) := C8.fnScope_by (by decide +kernel)

end Wk
end
/-! ### WLook -/
section
set_option Elab.async false
set_option linter.all false
set_option maxRecDepth 100000
set_option maxHeartbeats 4000000
namespace Wk
open PySem PySem.Spec PyProof.Rows L2
open He (ga ma fAd)
/-! more looks at what's written -/
def intsOf : List Value → List Int → Bool
  | [], [] => true
  | .int i _ :: r, j :: q => decide (i = j) && intsOf r q
  | _, _ => false
def strsOf : List Value → List Str → Bool
  | [], [] => true
  | .str i _ :: r, j :: q => decide (i = j) && strsOf r q
  | _, _ => false
def tupC (K : PySem.W.Frag) (x : Str) (t : List Value → Bool) : Bool := match K.lookup (ga K x) with
  | some ⟨c, _, .seq its _, _⟩ => decide (c = .type "tuple") && (Nat.ble its.size 1000 && t its.toList)
  | _ => false
def valI (K : PySem.W.Frag) : Value → V → Bool
  | .int i _, .int j => decide (i = j)
  | .ref a, .ref b => decide (a = b)
  | _, _ => false
def entC (K : PySem.W.Frag) : List DictEntry → List (Int × V) → Bool
  | [], [] => true
  | e :: r, p :: q => (match e.key with
    | .int i _ => decide (i = p.1)
    | _ => false) && (decide (e.hash = hashInt p.1) && (valI K e.val p.2 && entC K r q))
  | _, _ => false
def dictC (K : PySem.W.Frag) (x : Str) (kvs : List (Int × V)) : Bool := match K.lookup (ga K x) with
  | some ⟨c, none, .dict es _, sl⟩ => decide (c = .type "dict") && (sl.isEmpty && entC K es.toList kvs)
  | _ => false
def insC (K : PySem.W.Frag) (x : Str) : Bool := He.eqO (PySem.W.findIn K (.ref (ga K x)) "__class__") (some (some (.builtin "object.__class__"))) && (He.eqO (PySem.W.specialIn K (.builtin "object.__class__") "__get__") (some (some (.builtin "getset_descriptor.__get__"))) &&
  (decide (PySem.W.takesIn K (.builtin "object.__class__") = some true) && decide (PySem.W.mroIn K (ga K x) (.type "object") = some true)))
def kitC (K : PySem.W.Frag) (x y : Str) (b : Bool) : Bool := decide (PySem.W.kitOne K (.ref (ga K x)) (.ref (ga K y)) = some b)
def faL0 : List He.Fa := [.free "isinstance", .free "len", .free "list", .free "max", .free "min", .free "ord", .free "range", .free "reversed", .free "set", .free "sorted", .free "sum", .free "tuple", .glo "Put", .glo "Out", .glo "Issue", .glo "Logbook", .glo "Feature", .glo "NORTHERN", .glo "EASTERN", .glo "SHAPE_WORDS", .glo "NO_SIGNS", .glo "DEEDS", .glo "NUMBERS", .glo "ROWS", .cls "Put", .cls "Out", .cls "Issue", .cls "Logbook", .cls "Feature", .int "LAST_DAY" 99999]
def faL1 : List He.Fa := [.int "MOST_ENTRIES" 400, .int "LAND_SIDE" 1000000, .int "LAST_SERIES" 6, .int "GREAT_S" 83, .int "SMALL_S" 115, .int "DIGIT_ONE" 49, .int "DIGIT_FOUR" 52, .int "DIGIT_ZERO" 48, .int "BLANK_sheets" 32, .int "TOO_LONG" (-2), .int "OUT_OF_BOUNDS" (-1), .int "CODE_FAULT" (-6), .int "NO_SUCH" (-4), .int "FULL" (-7), .int "NOT_NOW" (-5), .int "NOTHING_THERE" (-3), .int "LAST_NUMBER" 9999, .int "LONGEST_CODE" 32, .int "SPOT" 0, .int "LINE" 1, .int "AREA" 2, .int "MOST_SHEETS" 64, .int "NEW" 1, .int "ANOTHER" 2, .int "GONE" 3, .int "QUOTE" 34, .int "BLANK_texts" 32, .int "WENT" 2, .int "LONGEST_NAME" 40, .int "FIRST_SIGN" 32]
def faL2 : List He.Fa := [.int "LAST_SIGN" 126, .int "LAST_GROUP" 31, .int "LAST_COORDINATE" 999999, .int "MOST_PLACES" 64, .int "MOST_FEATURES" 200, .noat "Put" "day", .noat "Put" "number", .noat "Put" "feature", .noat "Put" "was", .noat "Out" "day", .noat "Out" "number", .noat "Issue" "day", .noat "Issue" "sheet", .noat "Issue" "features", .noat "Logbook" "entries", .noat "Feature" "group", .noat "Feature" "name", .noat "Feature" "kind", .noat "Feature" "places", .noat "Feature" "box", .mkr "Put", .mkr "Out", .mkr "Issue", .mkr "Logbook", .mkr "Feature", .meth "Logbook" "enter", .meth "Logbook" "take_back", .meth "Logbook" "is_full", .meth "Logbook" "last_day", .meth "Logbook" "up_to"]
def faL3 : List He.Fa := [.glo "code_fault", .keep "code_fault", .glo "sheet_of", .keep "sheet_of", .glo "code_bytes", .keep "code_bytes", .glo "quarters_of", .keep "quarters_of", .glo "ground_of", .keep "ground_of", .glo "is_day", .keep "is_day", .glo "is_number", .keep "is_number", .glo "turn", .keep "turn", .glo "in_box", .keep "in_box", .glo "ways_of", .keep "ways_of", .glo "box_of", .keep "box_of", .glo "alike", .keep "alike", .glo "boxes_apart", .keep "boxes_apart", .glo "bytes_of", .keep "bytes_of", .glo "shape_text", .keep "shape_text"]
def faL4 : List He.Fa := [.glo "counted", .keep "counted", .glo "is_name", .keep "is_name", .glo "are_places", .keep "are_places", .glo "rows_from", .keep "rows_from", .meth "Logbook" "land_of", .meth "Logbook" "issues", .glo "codes_told", .keep "codes_told", .glo "refusal", .keep "refusal", .glo "on_way", .keep "on_way", .glo "parted", .keep "parted", .glo "goes_back", .keep "goes_back", .glo "sides_of", .keep "sides_of", .glo "is_line", .keep "is_line", .glo "way_touches", .keep "way_touches", .glo "lies_within", .keep "lies_within", .glo "changes", .keep "changes"]
def faL5 : List He.Fa := [.glo "feature_line", .keep "feature_line", .glo "tell_history", .keep "tell_history", .glo "tell_last", .keep "tell_last", .glo "put_in_bounds", .keep "put_in_bounds", .glo "undo", .keep "undo", .meth "Logbook" "editions", .meth "Logbook" "latest_editions", .glo "ways_meet", .keep "ways_meet", .glo "twice_area", .keep "twice_area", .glo "any_touches", .keep "any_touches", .glo "sheet_text", .keep "sheet_text", .glo "tell_land", .keep "tell_land", .glo "tell_feature", .keep "tell_feature", .glo "take_out", .keep "take_out", .glo "side_fits", .keep "side_fits", .glo "leftwards", .keep "leftwards"]
def faL6 : List He.Fa := [.glo "stands_on", .keep "stands_on", .glo "tell_text", .keep "tell_text", .glo "tell_editions", .keep "tell_editions", .glo "tell_torn", .keep "tell_torn", .glo "is_simple", .keep "is_simple", .glo "features_on", .keep "features_on", .glo "sheets_of", .keep "sheets_of", .glo "kept_places", .keep "kept_places", .glo "tell_now", .keep "tell_now", .glo "changes_since", .keep "changes_since", .glo "tell_olds", .keep "tell_olds", .glo "tell_sheets", .keep "tell_sheets", .glo "issue", .keep "issue", .glo "tell_old", .keep "tell_old", .glo "tell_changes", .keep "tell_changes"]
def faL7 : List He.Fa := [.glo "put", .keep "put", .glo "answers", .keep "answers"]
def faL : List He.Fa := faL0 ++ (faL1 ++ (faL2 ++ (faL3 ++ (faL4 ++ (faL5 ++ (faL6 ++ (faL7)))))))
def fnL0 : List He.FnD := [⟨("Put", some "__init__"), "__init__", "Put.__init__", C8.fnArgs s_Put_init, C8.fnBody s_Put_init, C8.fnScope s_Put_init⟩, ⟨("Out", some "__init__"), "__init__", "Out.__init__", C8.fnArgs s_Out_init, C8.fnBody s_Out_init, C8.fnScope s_Out_init⟩, ⟨("Issue", some "__init__"), "__init__", "Issue.__init__", C8.fnArgs s_Issue_init, C8.fnBody s_Issue_init, C8.fnScope s_Issue_init⟩, ⟨("Logbook", some "__init__"), "__init__", "Logbook.__init__", C8.fnArgs s_Logbook_init, C8.fnBody s_Logbook_init, C8.fnScope s_Logbook_init⟩, ⟨("Logbook", some "enter"), "enter", "Logbook.enter", C8.fnArgs s_Logbook_enter, C8.fnBody s_Logbook_enter, C8.fnScope s_Logbook_enter⟩, ⟨("Logbook", some "take_back"), "take_back", "Logbook.take_back", C8.fnArgs s_Logbook_take_back, C8.fnBody s_Logbook_take_back, C8.fnScope s_Logbook_take_back⟩, ⟨("Logbook", some "is_full"), "is_full", "Logbook.is_full", C8.fnArgs s_Logbook_is_full, C8.fnBody s_Logbook_is_full, C8.fnScope s_Logbook_is_full⟩, ⟨("Logbook", some "last_day"), "last_day", "Logbook.last_day", C8.fnArgs s_Logbook_last_day, C8.fnBody s_Logbook_last_day, C8.fnScope s_Logbook_last_day⟩, ⟨("Logbook", some "up_to"), "up_to", "Logbook.up_to", C8.fnArgs s_Logbook_up_to, C8.fnBody s_Logbook_up_to, C8.fnScope s_Logbook_up_to⟩, ⟨("code_fault", none), "code_fault", "code_fault", C8.fnArgs s_code_fault, C8.fnBody s_code_fault, C8.fnScope s_code_fault⟩]
def fnL1 : List He.FnD := [⟨("sheet_of", none), "sheet_of", "sheet_of", C8.fnArgs s_sheet_of, C8.fnBody s_sheet_of, C8.fnScope s_sheet_of⟩, ⟨("code_bytes", none), "code_bytes", "code_bytes", C8.fnArgs s_code_bytes, C8.fnBody s_code_bytes, C8.fnScope s_code_bytes⟩, ⟨("quarters_of", none), "quarters_of", "quarters_of", C8.fnArgs s_quarters_of, C8.fnBody s_quarters_of, C8.fnScope s_quarters_of⟩, ⟨("ground_of", none), "ground_of", "ground_of", C8.fnArgs s_ground_of, C8.fnBody s_ground_of, C8.fnScope s_ground_of⟩, ⟨("is_day", none), "is_day", "is_day", C8.fnArgs s_is_day, C8.fnBody s_is_day, C8.fnScope s_is_day⟩, ⟨("is_number", none), "is_number", "is_number", C8.fnArgs s_is_number, C8.fnBody s_is_number, C8.fnScope s_is_number⟩, ⟨("turn", none), "turn", "turn", C8.fnArgs s_turn, C8.fnBody s_turn, C8.fnScope s_turn⟩, ⟨("in_box", none), "in_box", "in_box", C8.fnArgs s_in_box, C8.fnBody s_in_box, C8.fnScope s_in_box⟩, ⟨("ways_of", none), "ways_of", "ways_of", C8.fnArgs s_ways_of, C8.fnBody s_ways_of, C8.fnScope s_ways_of⟩, ⟨("box_of", none), "box_of", "box_of", C8.fnArgs s_box_of, C8.fnBody s_box_of, C8.fnScope s_box_of⟩]
def fnL2 : List He.FnD := [⟨("alike", none), "alike", "alike", C8.fnArgs s_alike, C8.fnBody s_alike, C8.fnScope s_alike⟩, ⟨("boxes_apart", none), "boxes_apart", "boxes_apart", C8.fnArgs s_boxes_apart, C8.fnBody s_boxes_apart, C8.fnScope s_boxes_apart⟩, ⟨("bytes_of", none), "bytes_of", "bytes_of", C8.fnArgs s_bytes_of, C8.fnBody s_bytes_of, C8.fnScope s_bytes_of⟩, ⟨("shape_text", none), "shape_text", "shape_text", C8.fnArgs s_shape_text, C8.fnBody s_shape_text, C8.fnScope s_shape_text⟩, ⟨("counted", none), "counted", "counted", C8.fnArgs s_counted, C8.fnBody s_counted, C8.fnScope s_counted⟩, ⟨("is_name", none), "is_name", "is_name", C8.fnArgs s_is_name, C8.fnBody s_is_name, C8.fnScope s_is_name⟩, ⟨("are_places", none), "are_places", "are_places", C8.fnArgs s_are_places, C8.fnBody s_are_places, C8.fnScope s_are_places⟩, ⟨("rows_from", none), "rows_from", "rows_from", C8.fnArgs s_rows_from, C8.fnBody s_rows_from, C8.fnScope s_rows_from⟩, ⟨("Logbook", some "land_of"), "land_of", "Logbook.land_of", C8.fnArgs s_Logbook_land_of, C8.fnBody s_Logbook_land_of, C8.fnScope s_Logbook_land_of⟩, ⟨("Logbook", some "issues"), "issues", "Logbook.issues", C8.fnArgs s_Logbook_issues, C8.fnBody s_Logbook_issues, C8.fnScope s_Logbook_issues⟩]
def fnL3 : List He.FnD := [⟨("codes_told", none), "codes_told", "codes_told", C8.fnArgs s_codes_told, C8.fnBody s_codes_told, C8.fnScope s_codes_told⟩, ⟨("refusal", none), "refusal", "refusal", C8.fnArgs s_refusal, C8.fnBody s_refusal, C8.fnScope s_refusal⟩, ⟨("on_way", none), "on_way", "on_way", C8.fnArgs s_on_way, C8.fnBody s_on_way, C8.fnScope s_on_way⟩, ⟨("parted", none), "parted", "parted", C8.fnArgs s_parted, C8.fnBody s_parted, C8.fnScope s_parted⟩, ⟨("goes_back", none), "goes_back", "goes_back", C8.fnArgs s_goes_back, C8.fnBody s_goes_back, C8.fnScope s_goes_back⟩, ⟨("sides_of", none), "sides_of", "sides_of", C8.fnArgs s_sides_of, C8.fnBody s_sides_of, C8.fnScope s_sides_of⟩, ⟨("is_line", none), "is_line", "is_line", C8.fnArgs s_is_line, C8.fnBody s_is_line, C8.fnScope s_is_line⟩, ⟨("Feature", some "__init__"), "__init__", "Feature.__init__", C8.fnArgs s_Feature_init, C8.fnBody s_Feature_init, C8.fnScope s_Feature_init⟩, ⟨("way_touches", none), "way_touches", "way_touches", C8.fnArgs s_way_touches, C8.fnBody s_way_touches, C8.fnScope s_way_touches⟩, ⟨("lies_within", none), "lies_within", "lies_within", C8.fnArgs s_lies_within, C8.fnBody s_lies_within, C8.fnScope s_lies_within⟩]
def fnL4 : List He.FnD := [⟨("changes", none), "changes", "changes", C8.fnArgs s_changes, C8.fnBody s_changes, C8.fnScope s_changes⟩, ⟨("feature_line", none), "feature_line", "feature_line", C8.fnArgs s_feature_line, C8.fnBody s_feature_line, C8.fnScope s_feature_line⟩, ⟨("tell_history", none), "tell_history", "tell_history", C8.fnArgs s_tell_history, C8.fnBody s_tell_history, C8.fnScope s_tell_history⟩, ⟨("tell_last", none), "tell_last", "tell_last", C8.fnArgs s_tell_last, C8.fnBody s_tell_last, C8.fnScope s_tell_last⟩, ⟨("put_in_bounds", none), "put_in_bounds", "put_in_bounds", C8.fnArgs s_put_in_bounds, C8.fnBody s_put_in_bounds, C8.fnScope s_put_in_bounds⟩, ⟨("undo", none), "undo", "undo", C8.fnArgs s_undo, C8.fnBody s_undo, C8.fnScope s_undo⟩, ⟨("Logbook", some "editions"), "editions", "Logbook.editions", C8.fnArgs s_Logbook_editions, C8.fnBody s_Logbook_editions, C8.fnScope s_Logbook_editions⟩, ⟨("Logbook", some "latest_editions"), "latest_editions", "Logbook.latest_editions", C8.fnArgs s_Logbook_latest_editions, C8.fnBody s_Logbook_latest_editions, C8.fnScope s_Logbook_latest_editions⟩, ⟨("ways_meet", none), "ways_meet", "ways_meet", C8.fnArgs s_ways_meet, C8.fnBody s_ways_meet, C8.fnScope s_ways_meet⟩, ⟨("twice_area", none), "twice_area", "twice_area", C8.fnArgs s_twice_area, C8.fnBody s_twice_area, C8.fnScope s_twice_area⟩]
def fnL5 : List He.FnD := [⟨("any_touches", none), "any_touches", "any_touches", C8.fnArgs s_any_touches, C8.fnBody s_any_touches, C8.fnScope s_any_touches⟩, ⟨("sheet_text", none), "sheet_text", "sheet_text", C8.fnArgs s_sheet_text, C8.fnBody s_sheet_text, C8.fnScope s_sheet_text⟩, ⟨("tell_land", none), "tell_land", "tell_land", C8.fnArgs s_tell_land, C8.fnBody s_tell_land, C8.fnScope s_tell_land⟩, ⟨("tell_feature", none), "tell_feature", "tell_feature", C8.fnArgs s_tell_feature, C8.fnBody s_tell_feature, C8.fnScope s_tell_feature⟩, ⟨("take_out", none), "take_out", "take_out", C8.fnArgs s_take_out, C8.fnBody s_take_out, C8.fnScope s_take_out⟩, ⟨("side_fits", none), "side_fits", "side_fits", C8.fnArgs s_side_fits, C8.fnBody s_side_fits, C8.fnScope s_side_fits⟩, ⟨("leftwards", none), "leftwards", "leftwards", C8.fnArgs s_leftwards, C8.fnBody s_leftwards, C8.fnScope s_leftwards⟩, ⟨("stands_on", none), "stands_on", "stands_on", C8.fnArgs s_stands_on, C8.fnBody s_stands_on, C8.fnScope s_stands_on⟩, ⟨("tell_text", none), "tell_text", "tell_text", C8.fnArgs s_tell_text, C8.fnBody s_tell_text, C8.fnScope s_tell_text⟩, ⟨("tell_editions", none), "tell_editions", "tell_editions", C8.fnArgs s_tell_editions, C8.fnBody s_tell_editions, C8.fnScope s_tell_editions⟩]
def fnL6 : List He.FnD := [⟨("tell_torn", none), "tell_torn", "tell_torn", C8.fnArgs s_tell_torn, C8.fnBody s_tell_torn, C8.fnScope s_tell_torn⟩, ⟨("is_simple", none), "is_simple", "is_simple", C8.fnArgs s_is_simple, C8.fnBody s_is_simple, C8.fnScope s_is_simple⟩, ⟨("features_on", none), "features_on", "features_on", C8.fnArgs s_features_on, C8.fnBody s_features_on, C8.fnScope s_features_on⟩, ⟨("sheets_of", none), "sheets_of", "sheets_of", C8.fnArgs s_sheets_of, C8.fnBody s_sheets_of, C8.fnScope s_sheets_of⟩, ⟨("kept_places", none), "kept_places", "kept_places", C8.fnArgs s_kept_places, C8.fnBody s_kept_places, C8.fnScope s_kept_places⟩, ⟨("tell_now", none), "tell_now", "tell_now", C8.fnArgs s_tell_now, C8.fnBody s_tell_now, C8.fnScope s_tell_now⟩, ⟨("changes_since", none), "changes_since", "changes_since", C8.fnArgs s_changes_since, C8.fnBody s_changes_since, C8.fnScope s_changes_since⟩, ⟨("tell_olds", none), "tell_olds", "tell_olds", C8.fnArgs s_tell_olds, C8.fnBody s_tell_olds, C8.fnScope s_tell_olds⟩, ⟨("tell_sheets", none), "tell_sheets", "tell_sheets", C8.fnArgs s_tell_sheets, C8.fnBody s_tell_sheets, C8.fnScope s_tell_sheets⟩, ⟨("issue", none), "issue", "issue", C8.fnArgs s_issue, C8.fnBody s_issue, C8.fnScope s_issue⟩]
def fnL7 : List He.FnD := [⟨("tell_old", none), "tell_old", "tell_old", C8.fnArgs s_tell_old, C8.fnBody s_tell_old, C8.fnScope s_tell_old⟩, ⟨("tell_changes", none), "tell_changes", "tell_changes", C8.fnArgs s_tell_changes, C8.fnBody s_tell_changes, C8.fnScope s_tell_changes⟩, ⟨("put", none), "put", "put", C8.fnArgs s_put, C8.fnBody s_put, C8.fnScope s_put⟩, ⟨("answers", none), "answers", "answers", C8.fnArgs s_answers, C8.fnBody s_answers, C8.fnScope s_answers⟩]
def fnL : List He.FnD := fnL0 ++ (fnL1 ++ (fnL2 ++ (fnL3 ++ (fnL4 ++ (fnL5 ++ (fnL6 ++ (fnL7)))))))
def deedNs : List Str := ["put", "take_out", "issue", "undo", "tell_land", "tell_feature", "tell_text", "tell_now", "tell_old", "tell_olds", "tell_changes", "tell_history", "tell_editions", "tell_sheets", "tell_torn", "tell_last"]
def deedsOf (K : PySem.W.Frag) : List (Int × V) := [(1, .ref (ga K "put")), (2, .ref (ga K "take_out")), (3, .ref (ga K "issue")), (4, .ref (ga K "undo")), (5, .ref (ga K "tell_land")), (6, .ref (ga K "tell_feature")), (7, .ref (ga K "tell_text")), (8, .ref (ga K "tell_now")), (9, .ref (ga K "tell_old")), (10, .ref (ga K "tell_olds")), (11, .ref (ga K "tell_changes")), (12, .ref (ga K "tell_history")), (13, .ref (ga K "tell_editions")), (14, .ref (ga K "tell_sheets")), (15, .ref (ga K "tell_torn")), (16, .ref (ga K "tell_last"))]
def adOf (K : PySem.W.Frag) : Ad := ⟨ga K "Put", ga K "Out", ga K "Issue", ga K "Logbook", ga K "Feature", ga K "NORTHERN", ga K "EASTERN", ga K "SHAPE_WORDS", ga K "NO_SIGNS", ga K "DEEDS", ga K "NUMBERS", ga K "ROWS", deedsOf K⟩
def moreL (K : PySem.W.Frag) : List Bool := [tupC K "NORTHERN" (fun us => intsOf us [1, 2]),
  tupC K "EASTERN" (fun us => intsOf us [2, 4]),
  tupC K "SHAPE_WORDS" (fun us => strsOf us ["spot", "line", "area"]),
  tupC K "NO_SIGNS" (fun us => intsOf us [34, 92]),
  dictC K "DEEDS" (deedsOf K),
  dictC K "NUMBERS" [(1, .int 4), (2, .int 2), (3, .int 1), (4, .int 0), (5, .int 1), (6, .int 2), (7, .int 1), (8, .int 1), (9, .int 1), (10, .int 1), (11, .int 1), (12, .int 1), (13, .int 0), (14, .int 2), (15, .int 0), (16, .int 0)],
  dictC K "ROWS" [(1, .int 2), (2, .int 0), (3, .int 1), (4, .int 0), (5, .int 0), (6, .int 0), (7, .int 1), (8, .int 1), (9, .int 1), (10, .int 0), (11, .int 1), (12, .int 0), (13, .int 1), (14, .int 0), (15, .int 2), (16, .int 0)],
  insC K "Put",
  kitC K "Put" "Put" true,
  kitC K "Put" "Out" false,
  kitC K "Put" "Issue" false,
  insC K "Out",
  kitC K "Out" "Put" false,
  kitC K "Out" "Out" true,
  kitC K "Out" "Issue" false,
  insC K "Issue",
  kitC K "Issue" "Put" false,
  kitC K "Issue" "Out" false,
  kitC K "Issue" "Issue" true,
  decide ((deedNs.map (ga K)).Nodup)]
end Wk
end
/-! ### WRun -/
section
set_option Elab.async false
set_option linter.all false
set_option maxRecDepth 100000
set_option maxHeartbeats 0
/-! the top, run by the kernel -/
namespace Wk
open PySem PySem.W PySem.Calls PyProof.Rows
abbrev Prg : Program := PySem.Challenge.rw_landeditions_s01_answers.prog
/-- the walk sees the asked def alone -/
abbrev qv : Program := view Prg [116]
def nm0 : List PySem.Str := ["LAST_DAY", "MOST_ENTRIES", "Put", "Out", "Issue", "Logbook", "LAND_SIDE", "LAST_SERIES", "GREAT_S", "SMALL_S", "DIGIT_ONE", "DIGIT_FOUR", "DIGIT_ZERO", "BLANK_sheets", "NORTHERN", "EASTERN", "code_fault", "sheet_of", "code_bytes", "codes_told"]
def nm1 : List PySem.Str := ["quarters_of", "ground_of", "TOO_LONG", "OUT_OF_BOUNDS", "CODE_FAULT", "NO_SUCH", "FULL", "NOT_NOW", "NOTHING_THERE", "LAST_NUMBER", "LONGEST_CODE", "is_day", "is_number", "refusal", "SPOT", "LINE", "AREA", "turn", "in_box", "on_way"]
def nm2 : List PySem.Str := ["parted", "ways_meet", "goes_back", "ways_of", "sides_of", "side_fits", "is_simple", "twice_area", "leftwards", "is_line", "kept_places", "MOST_SHEETS", "NEW", "ANOTHER", "GONE", "Feature", "box_of", "alike", "boxes_apart", "way_touches"]
def nm3 : List PySem.Str := ["any_touches", "lies_within", "stands_on", "features_on", "sheets_of", "changes", "SHAPE_WORDS", "QUOTE", "BLANK_texts", "bytes_of", "shape_text", "feature_line", "sheet_text", "WENT", "counted", "tell_land", "tell_feature", "tell_text", "tell_now", "changes_since"]
def nm4 : List PySem.Str := ["tell_old", "tell_olds", "tell_changes", "tell_history", "tell_editions", "tell_sheets", "tell_torn", "tell_last", "LONGEST_NAME", "FIRST_SIGN", "LAST_SIGN", "NO_SIGNS", "LAST_GROUP", "LAST_COORDINATE", "MOST_PLACES", "MOST_FEATURES", "is_name", "are_places", "put_in_bounds", "put"]
def nm5 : List PySem.Str := ["take_out", "issue", "undo", "DEEDS", "NUMBERS", "ROWS", "rows_from"]
def nms : List PySem.Str := nm0 ++ (nm1 ++ (nm2 ++ (nm3 ++ (nm4 ++ (nm5)))))
/-- what the module's names reach in n steps, front by front -/
def frontG (g : Addr → Option Obj) : Nat → List Addr → List Addr
  | 0, as => as
  | n + 1, as => as ++ frontG g n (as.flatMap fun a => match g a with
    | some o => He.refsO o
    | none => [])
def obs2 (K : Frag) : He.Al × Bool := (He.obsE faL fnL K, (moreL K).all id)
def ob (s : SharedT) : He.Al × Bool := obs2 (He.frG (HandSHeadRun.getT s) (frontG (HandSHeadRun.getT s) 4 [mainGlobals]))
noncomputable def endT (w : World) (os : OsState) : Option SharedT := HandSHeadRun.endF (HandSHeadRun.stepQ (HandSHeadRun.denQ HandSHeadRun.tabQ) Prg w) 6000 Prg w os
def RunL (w : World) : Prop := ∀ os : OsState, (endT w os).map (fun s => HandSHeadRun.looksF Prg (boot_heap w.params) s.abs) = some true
def RunS (w : World) : Prop := ∀ os : OsState, (endT w os).map (fun s => HandSHeadRun.seenQ qv nms (importedModules Prg.main.body) (fun s => xlAt qv [] s && recOk [] s) s.abs) = some (openGood qv nms)
def RunO (w : World) : Prop := ∀ os : OsState, (endT w os).map ob = some (He.valE fnL, true)
theorem runL0 (w : World) : RunL (w.withFollow "special-get-raises" false) := fun os => by kernel_rfl
theorem runL1 (w : World) : RunL (w.withFollow "special-get-raises" true) := fun os => by kernel_rfl
theorem runL (w : World) : RunL w := byRow2 "special-get-raises" (P := RunL) runL0 runL1 w
theorem runS0 (w : World) : RunS (w.withFollow "special-get-raises" false) := fun os => by kernel_rfl
theorem runS1 (w : World) : RunS (w.withFollow "special-get-raises" true) := fun os => by kernel_rfl
theorem runS (w : World) : RunS w := byRow2 "special-get-raises" (P := RunS) runS0 runS1 w
theorem runO0 (w : World) : RunO (w.withFollow "special-get-raises" false) := fun os => by kernel_rfl
theorem runO1 (w : World) : RunO (w.withFollow "special-get-raises" true) := fun os => by kernel_rfl
theorem runO (w : World) : RunO w := byRow2 "special-get-raises" (P := RunO) runO0 runO1 w
/-- what the end asks of the program's own text; it wants memory, so it stands early -/
theorem ok1 : chainsOk qv = true := by decide +kernel
theorem ok2 : opensWell Prg = true := by decide +kernel
theorem ok3 : PySem.Challenge.rw_landeditions_s01_answers.wellSaid = true := by decide +kernel
theorem map3 {α β γ δ : Type} {o : Option α} {f : α → β} {g : α → γ} {k : α → δ} {b : β} {c : γ} {d : δ} (h1 : o.map f = some b) (h2 : o.map g = some c) (h3 : o.map k = some d) : o.map (fun s => (f s, g s, k s)) = some (b, c, d) := by
  cases o with
  | none => cases h1
  | some x => rw [Option.map_some] at *; rw [Option.some.inj h1, Option.some.inj h2, Option.some.inj h3]
end Wk
end
/-! ### GArea -/
section
/-! A ring whose sides meet at corners alone has an area that is not 0: winding numbers, slab by slab. Core Lean. -/
namespace Ar

def sm (n : Nat) (f : Nat → Rat) : Rat := match n with
  | 0 => 0
  | n + 1 => sm n f + f n

theorem sm_congr {f g : Nat → Rat} : ∀ {n : Nat}, (∀ i, i < n → f i = g i) → sm n f = sm n g
  | 0, _ => rfl
  | n + 1, h => by
    show sm n f + f n = sm n g + g n
    rw [sm_congr (n := n) fun i hi => h i (by omega), h n (by omega)]
theorem sm_add {f g : Nat → Rat} : ∀ {n : Nat}, sm n (fun i => f i + g i) = sm n f + sm n g
  | 0 => by show (0 : Rat) = 0 + 0; grind
  | n + 1 => by
    show sm n _ + (f n + g n) = sm n f + f n + (sm n g + g n)
    rw [sm_add (n := n)]; grind
theorem sm_mul {c : Rat} {f : Nat → Rat} : ∀ {n : Nat}, sm n (fun i => c * f i) = c * sm n f
  | 0 => by show (0 : Rat) = c * 0; grind
  | n + 1 => by
    show sm n _ + c * f n = c * (sm n f + f n)
    rw [sm_mul (n := n)]; grind
theorem sm_sub {f g : Nat → Rat} : ∀ {n : Nat}, sm n (fun i => f i - g i) = sm n f - sm n g
  | 0 => by simp [sm]; grind
  | n + 1 => by
    show sm n _ + (f n - g n) = sm n f + f n - (sm n g + g n)
    rw [sm_sub (n := n)]; grind
theorem sm_zero : ∀ {n : Nat}, sm n (fun _ => 0) = 0
  | 0 => rfl
  | n + 1 => by
    show sm n _ + 0 = 0
    rw [sm_zero (n := n)]; grind
theorem sm_swap {f : Nat → Nat → Rat} {m : Nat} : ∀ {n : Nat}, sm n (fun i => sm m (fun j => f i j)) = sm m (fun j => sm n (fun i => f i j))
  | 0 => by
    show (0 : Rat) = sm m (fun _ => 0)
    rw [sm_zero]
  | n + 1 => by
    show sm n _ + sm m (fun j => f n j) = sm m (fun j => sm n (fun i => f i j) + f n j)
    rw [sm_swap (n := n), sm_add]
theorem sm_le {f : Nat → Rat} : ∀ {n : Nat}, (∀ i, i < n → f i ≤ 0) → sm n f ≤ 0
  | 0, _ => by simp [sm]
  | n + 1, h => by
    show sm n f + f n ≤ 0
    have a := sm_le (n := n) fun i hi => h i (by omega)
    have b := h n (by omega)
    grind
theorem sm_lt {f : Nat → Rat} : ∀ {n : Nat}, (∀ i, i < n → f i ≤ 0) → (∃ i, i < n ∧ f i < 0) → sm n f < 0
  | 0, _, h => by obtain ⟨i, hi, _⟩ := h; omega
  | n + 1, h, ⟨i, hi, hl⟩ => by
    show sm n f + f n < 0
    by_cases e : i = n
    · subst e
      have a := sm_le (n := i) fun j hj => h j (by omega)
      grind
    · have a := sm_lt (n := n) (fun j hj => h j (by omega)) ⟨i, by omega, hl⟩
      have b := h n (by omega)
      grind

def nx (n i : Nat) : Nat := if i + 1 = n then 0 else i + 1
theorem nx_lt {n i : Nat} (h : i < n) : nx n i < n := by unfold nx; split <;> omega

theorem sm_tele_aux {F : Nat → Rat} : ∀ {n : Nat}, sm n (fun i => F (i + 1) - F i) = F n - F 0
  | 0 => by simp [sm]; grind
  | n + 1 => by
    show sm n _ + (F (n + 1) - F n) = _
    rw [sm_tele_aux (n := n)]; grind
theorem sm_tele {F : Nat → Rat} : ∀ {n : Nat}, sm n (fun i => F (nx n i) - F i) = 0
  | 0 => rfl
  | n + 1 => by
    show sm n _ + (F (nx (n + 1) n) - F n) = 0
    have e : sm n (fun i => F (nx (n + 1) i) - F i) = sm n (fun i => F (i + 1) - F i) := sm_congr fun i hi => by
      have : nx (n + 1) i = i + 1 := by unfold nx; rw [if_neg (by omega)]
      rw [this]
    have e2 : nx (n + 1) n = 0 := by unfold nx; rw [if_pos rfl]
    rw [e, e2, sm_tele_aux]; grind
theorem sm_one {f g : Nat → Rat} {a : Nat} : ∀ {n : Nat}, a < n → (∀ i, i < n → i ≠ a → f i = g i) → sm n f - sm n g = f a - g a
  | 0, h, _ => by omega
  | n + 1, h, k => by
    show sm n f + f n - (sm n g + g n) = _
    by_cases e : a = n
    · subst e
      rw [sm_congr (n := a) (f := f) (g := g) fun i hi => k i (by omega) (by omega)]; grind
    · have i1 := sm_one (n := n) (a := a) (f := f) (g := g) (by omega) fun i hi => k i (by omega)
      have i2 := k n (by omega) (by omega)
      grind
theorem sm_two {f g : Nat → Rat} {a b n : Nat} (ha : a < n) (hb : b < n) (hab : a ≠ b) (k : ∀ i, i < n → i ≠ a → i ≠ b → f i = g i) :
    sm n f - sm n g = (f a - g a) + (f b - g b) := by
  have e1 := sm_one (f := f) (g := fun i => if i = a then g a else f i) ha fun i _ hi => by simp [hi]
  have e2 := sm_one (f := fun i => if i = a then g a else f i) (g := g) hb fun i hi h1 => by
    by_cases h2 : i = a
    · subst h2; simp
    · simp [h2]; exact k i hi h2 h1
  simp only [if_pos, if_neg (Ne.symm hab)] at e1 e2
  grind

/-! ## A slab: signs that alternate -/
/-- l: heights with signs (true: +1); each one's signs below it come to c - [it is +] -/
def sg (b : Bool) : Rat := if b = true then 1 else -1
def tot (l : List (Rat × Bool)) : Rat := (l.map fun p => sg p.2).foldr (· + ·) 0
def mom (l : List (Rat × Bool)) : Rat := (l.map fun p => sg p.2 * p.1).foldr (· + ·) 0
def low (h : Rat) (l : List (Rat × Bool)) : Rat := (l.map fun p => if p.1 < h then sg p.2 else 0).foldr (· + ·) 0
theorem tot_cons (p : Rat × Bool) (l) : tot (p :: l) = sg p.2 + tot l := rfl
theorem mom_cons (p : Rat × Bool) (l) : mom (p :: l) = sg p.2 * p.1 + mom l := rfl
theorem low_cons (h : Rat) (p : Rat × Bool) (l) : low h (p :: l) = (if p.1 < h then sg p.2 else 0) + low h l := rfl
theorem perm_tot {l m : List (Rat × Bool)} (h : l.Perm m) : tot l = tot m := by
  induction h with
  | nil => rfl
  | cons x _ ih => rw [tot_cons, tot_cons, ih]
  | swap x y l => simp only [tot_cons]; grind
  | trans _ _ a b => exact a.trans b
theorem perm_mom {l m : List (Rat × Bool)} (h : l.Perm m) : mom l = mom m := by
  induction h with
  | nil => rfl
  | cons x _ ih => rw [mom_cons, mom_cons, ih]
  | swap x y l => simp only [mom_cons]; grind
  | trans _ _ a b => exact a.trans b
theorem perm_low {h : Rat} {l m : List (Rat × Bool)} (q : l.Perm m) : low h l = low h m := by
  induction q with
  | nil => rfl
  | cons x _ ih => rw [low_cons, low_cons, ih]
  | swap x y l => simp only [low_cons]; grind
  | trans _ _ a b => exact a.trans b
/-- the lowest one comes first -/
theorem least : ∀ (l : List (Rat × Bool)), l ≠ [] → (l.map (·.1)).Nodup → ∃ p r, l.Perm (p :: r) ∧ ∀ q ∈ r, p.1 < q.1
  | [], h, _ => absurd rfl h
  | [p], _, _ => ⟨p, [], .refl _, fun _ h => absurd h (by simp)⟩
  | p :: q :: r, _, nd => by
    obtain ⟨a, s, e, k⟩ := least (q :: r) (by simp) (by
      simp only [List.map_cons, List.nodup_cons] at nd ⊢
      exact nd.2)
    have nd2 : ((p :: a :: s).map (·.1)).Nodup := ((List.Perm.cons p e).map (·.1)).nodup_iff.mp nd
    simp only [List.map_cons, List.nodup_cons, List.mem_cons] at nd2
    have ne : p.1 ≠ a.1 := fun z => nd2.1 (.inl z)
    by_cases h : p.1 < a.1
    · refine ⟨p, a :: s, .cons p e, fun z hz => ?_⟩
      rcases List.mem_cons.mp hz with rfl | hz
      · exact h
      · have := k z hz; grind
    · refine ⟨a, p :: s, (List.Perm.cons p e).trans (.swap a p s), fun z hz => ?_⟩
      rcases List.mem_cons.mp hz with rfl | hz
      · grind
      · exact k z hz
theorem low_all {h : Rat} : ∀ {l : List (Rat × Bool)}, (∀ q ∈ l, h < q.1) → low h l = 0
  | [], _ => rfl
  | p :: l, k => by
    rw [low_cons, low_all (l := l) fun q hq => k q (List.mem_cons_of_mem _ hq), if_neg (by have := k p List.mem_cons_self; grind)]; grind
theorem slab1 : ∀ (N : Nat) (l : List (Rat × Bool)), l.length ≤ N → (l.map (·.1)).Nodup → tot l = 0 → (∀ p ∈ l, low p.1 l = 1 - (if p.2 = true then 1 else 0)) → l ≠ [] → mom l < 0
  | 0, l, hN, _, _, _, hl => by
    cases l with
    | nil => exact absurd rfl hl
    | cons _ _ => simp at hN
  | N + 1, l, hN, nd, ht, hw, hl => by
    obtain ⟨p, r, e, k⟩ := least l hl nd
    have ndr : ((p :: r).map (·.1)).Nodup := (e.map (·.1)).nodup_iff.mp nd
    have hw' : ∀ q ∈ p :: r, low q.1 (p :: r) = 1 - (if q.2 = true then 1 else 0) := fun q hq => by
      rw [← perm_low e]; exact hw q (e.mem_iff.mpr hq)
    rw [perm_tot e, tot_cons] at ht
    rw [perm_mom e, mom_cons]
    have w0 := hw' p List.mem_cons_self
    rw [low_cons, low_all k, if_neg (by grind)] at w0
    have hp : p.2 = true := by
      cases hb : p.2 with
      | true => rfl
      | false => rw [hb] at w0; simp at w0; grind
    have sp : sg p.2 = 1 := by rw [hp]; rfl
    have hr : r ≠ [] := by
      rintro rfl
      rw [sp] at ht
      have z : tot [] = 0 := rfl
      grind
    have ndr1 : (r.map (·.1)).Nodup := by
      simp only [List.map_cons, List.nodup_cons] at ndr; exact ndr.2
    obtain ⟨q, t, e2, k2⟩ := least r hr ndr1
    have hq : q ∈ r := e2.mem_iff.mpr List.mem_cons_self
    have hpq := k q hq
    have w1 := hw' q (List.mem_cons_of_mem _ hq)
    rw [low_cons, if_pos hpq, perm_low e2, low_cons, low_all k2, if_neg (by grind), sp] at w1
    have hqf : q.2 = false := by
      cases hb : q.2 with
      | false => rfl
      | true => rw [hb] at w1; simp at w1; grind
    have sq : sg q.2 = -1 := by rw [hqf]; rfl
    rw [perm_tot e2, tot_cons, sp, sq] at ht
    rw [perm_mom e2, mom_cons, sp, sq]
    by_cases ht0 : t = []
    · subst ht0
      show 1 * p.1 + (-1 * q.1 + 0) < 0
      grind
    · have len : t.length ≤ N := by
        have l1 := e.length_eq
        have l2 := e2.length_eq
        simp only [List.length_cons] at l1 l2
        omega
      have ndt : (t.map (·.1)).Nodup := by
        have := (e2.map (·.1)).nodup_iff.mp ndr1
        simp only [List.map_cons, List.nodup_cons] at this; exact this.2
      have := slab1 N t len ndt (by grind) (fun z hz => by
        have hz2 : z ∈ r := e2.mem_iff.mpr (List.mem_cons_of_mem _ hz)
        have w2 := hw' z (List.mem_cons_of_mem _ hz2)
        rw [low_cons, if_pos (k z hz2), perm_low e2, low_cons, if_pos (k2 z hz), sp, sq] at w2
        grind) ht0
      grind
/-- the lowest one tells the constant -/
theorem slab_c {c : Rat} {l : List (Rat × Bool)} (nd : (l.map (·.1)).Nodup) (hw : ∀ p ∈ l, low p.1 l = c - (if p.2 = true then 1 else 0)) (hl : l ≠ []) : c = 0 ∨ c = 1 := by
  obtain ⟨p, r, e, k⟩ := least l hl nd
  have w0 := hw p (e.mem_iff.mpr List.mem_cons_self)
  rw [perm_low e, low_cons, low_all k, if_neg (by grind)] at w0
  cases hb : p.2 with
  | true => rw [hb] at w0; right; grind
  | false => rw [hb] at w0; left; grind
def flip (l : List (Rat × Bool)) : List (Rat × Bool) := l.map fun p => (p.1, !p.2)
theorem sg_not (b : Bool) : sg (!b) = - sg b := by cases b <;> rfl
theorem flip_tot : ∀ l, tot (flip l) = - tot l
  | [] => by decide
  | p :: l => by
    show sg (!p.2) + tot (flip l) = -(sg p.2 + tot l)
    rw [flip_tot l, sg_not]; grind
theorem flip_mom : ∀ l, mom (flip l) = - mom l
  | [] => by decide
  | p :: l => by
    show sg (!p.2) * p.1 + mom (flip l) = -(sg p.2 * p.1 + mom l)
    rw [flip_mom l, sg_not]; grind
theorem flip_low (h : Rat) : ∀ l, low h (flip l) = - low h l
  | [] => by show (0 : Rat) = - 0; grind
  | p :: l => by
    show (if p.1 < h then sg (!p.2) else 0) + low h (flip l) = -((if p.1 < h then sg p.2 else 0) + low h l)
    rw [flip_low h l, sg_not]; grind
theorem flip_nd {l : List (Rat × Bool)} (nd : (l.map (·.1)).Nodup) : ((flip l).map (·.1)).Nodup := by
  have : (flip l).map (·.1) = l.map (·.1) := by simp [flip]
  rw [this]; exact nd
theorem slab0 {l : List (Rat × Bool)} (nd : (l.map (·.1)).Nodup) (ht : tot l = 0) (hw : ∀ p ∈ l, low p.1 l = 0 - (if p.2 = true then 1 else 0)) (hl : l ≠ []) : 0 < mom l := by
  have := slab1 _ (flip l) (Nat.le_refl _) (flip_nd nd) (by rw [flip_tot, ht]; grind) (fun p hp => by
    obtain ⟨q, hq, rfl⟩ := List.mem_map.mp hp
    have := hw q hq
    rw [flip_low, this]
    cases q.2 <;> simp <;> grind) (by intro z; exact hl (List.map_eq_nil_iff.mp z))
  rw [flip_mom] at this
  grind
end Ar
end
/-! ### GArea2 -/
section
set_option linter.all false
namespace Ar
def gg (X : Nat → Int) (Y m : Nat → Rat) (e : Nat) (t : Int) : Rat := Y e + ((t : Rat) - (X e : Rat)) * m e
structure Rg (n : Nat) (X : Nat → Int) (Y m : Nat → Rat) : Prop where
  n3 : 3 ≤ n
  inj : ∀ i j, i < n → j < n → X i = X j → i = j
  sl : ∀ i, i < n → m i * ((X (nx n i) : Rat) - (X i : Rat)) = Y (nx n i) - Y i
  ver : ∀ e k, e < n → k < n → k ≠ e → k ≠ nx n e → (X e < X k ∧ X k < X (nx n e) ∨ X (nx n e) < X k ∧ X k < X e) → Y k ≠ gg X Y m e (X k)
  ncr : ∀ e f, e < n → f < n → e ≠ f →
    ¬ ((Y f - gg X Y m e (X f)) * (Y (nx n f) - gg X Y m e (X (nx n f))) < 0 ∧ (Y e - gg X Y m f (X e)) * (Y (nx n e) - gg X Y m f (X (nx n e))) < 0)
/-- an edge reaches over from a to b -/
def cvr (n : Nat) (X : Nat → Int) (e : Nat) (a b : Int) : Prop := (X e ≤ a ∧ b ≤ X (nx n e)) ∨ (X (nx n e) ≤ a ∧ b ≤ X e)
instance (n : Nat) (X : Nat → Int) (e : Nat) (a b : Int) : Decidable (cvr n X e a b) := by unfold cvr; infer_instance
def hh (X : Nat → Int) (Y m : Nat → Rat) (e : Nat) (x : Int) : Rat := gg X Y m e x + gg X Y m e (x + 1)
def sn (n : Nat) (X : Nat → Int) (e : Nat) : Rat := if X e < X (nx n e) then 1 else -1
def pp (n : Nat) (X : Nat → Int) (e : Nat) : Rat := if X e < X (nx n e) then 1 else 0
def lam (n : Nat) (X : Nat → Int) (Y m : Nat → Rat) (e : Nat) (x : Int) : Rat := sm n fun f => if cvr n X f x (x + 1) ∧ hh X Y m f x < hh X Y m e x then sn n X f else 0

theorem mulneg {a b : Rat} (h : (a < 0 ∧ 0 < b) ∨ (0 < a ∧ b < 0)) : a * b < 0 := by
  rcases h with ⟨h1, h2⟩ | ⟨h1, h2⟩
  · have := Rat.mul_pos (a := -a) (b := b) (by grind) h2
    grind
  · have := Rat.mul_pos (a := a) (b := -b) h1 (by grind)
    grind
theorem nx_ne {n i : Nat} (h3 : 3 ≤ n) (h : i < n) : nx n i ≠ i := by unfold nx; split <;> omega
theorem nx_nx_ne {n i : Nat} (h3 : 3 ≤ n) (h : i < n) : nx n (nx n i) ≠ i := by unfold nx; split <;> split <;> omega
theorem nx_inj {n i j : Nat} (hi : i < n) (hj : j < n) (h : nx n i = nx n j) : i = j := by unfold nx at h; split at h <;> split at h <;> omega

section
variable {n : Nat} {X : Nat → Int} {Y m : Nat → Rat}
theorem gg_self {e : Nat} : gg X Y m e (X e) = Y e := by unfold gg; grind
theorem gg_nx (R : Rg n X Y m) {e : Nat} (he : e < n) : gg X Y m e (X (nx n e)) = Y (nx n e) := by
  have := R.sl e he
  unfold gg; grind
theorem gg_aff {e f : Nat} {t a : Int} : (gg X Y m f t - gg X Y m e t) = (gg X Y m f a - gg X Y m e a) + ((t : Rat) - (a : Rat)) * (m f - m e) := by unfold gg; grind

theorem le_cast {a b : Int} (h : a ≤ b) : (a : Rat) ≤ (b : Rat) := Rat.intCast_le_intCast.mpr h
theorem lt_cast {a b : Int} (h : a < b) : (a : Rat) < (b : Rat) := Rat.intCast_lt_intCast.mpr h
theorem aff_sign {da db B p q a b : Rat} (h1 : db = da + (b - a) * B) (hab : a < b) (hda : da < 0) (hdb : 0 < db) :
    (∀ p, p ≤ a → da + (p - a) * B < 0) ∧ (∀ q, b ≤ q → 0 < da + (q - a) * B) := by
  have hB : 0 < B := by
    apply Classical.byContradiction
    intro h
    have := Rat.mul_nonneg (a := b - a) (b := -B) (by grind) (by grind)
    grind
  refine ⟨fun p hp => ?_, fun q hq => ?_⟩
  · have := Rat.mul_nonneg (a := a - p) (b := B) (by grind) (by grind)
    grind
  · have := Rat.mul_nonneg (a := q - b) (b := B) (by grind) (by grind)
    grind
theorem key1a (R : Rg n X Y m) {e f : Nat} (he : e < n) (hf : f < n) (hef : e ≠ f) {a b : Int} (hab : a < b) (ce : cvr n X e a b) (cf : cvr n X f a b)
    (h1 : gg X Y m f a - gg X Y m e a < 0) (h2 : 0 < gg X Y m f b - gg X Y m e b) : False := by
  have af := fun t => gg_aff (X := X) (Y := Y) (m := m) (e := e) (f := f) (t := t) (a := a)
  have S := aff_sign (p := 0) (q := 0) (af b) (lt_cast hab) h1 h2
  have lo : ∀ t : Int, t ≤ a → gg X Y m f t - gg X Y m e t < 0 := fun t ht => by rw [af t]; exact S.1 _ (le_cast ht)
  have hi : ∀ t : Int, b ≤ t → 0 < gg X Y m f t - gg X Y m e t := fun t ht => by rw [af t]; exact S.2 _ (le_cast ht)
  have gf := gg_self (X := X) (Y := Y) (m := m) (e := f)
  have gf' := gg_nx R hf
  have ge := gg_self (X := X) (Y := Y) (m := m) (e := e)
  have ge' := gg_nx R he
  refine R.ncr e f he hf hef ⟨mulneg ?_, mulneg ?_⟩
  · rcases cf with ⟨c1, c2⟩ | ⟨c1, c2⟩
    · have := lo _ c1; have := hi _ c2; grind
    · have := lo _ c1; have := hi _ c2; grind
  · rcases ce with ⟨c1, c2⟩ | ⟨c1, c2⟩
    · have := lo _ c1; have := hi _ c2; grind
    · have := lo _ c1; have := hi _ c2; grind
theorem key1b (R : Rg n X Y m) {e f : Nat} (he : e < n) (hf : f < n) (hef : e ≠ f) {a b : Int} (hab : a < b) (ce : cvr n X e a b) (cf : cvr n X f a b)
    (h1 : 0 < gg X Y m f a - gg X Y m e a) (h2 : gg X Y m f b - gg X Y m e b < 0) : False :=
  key1a R hf he (Ne.symm hef) hab cf ce (by grind) (by grind)
def lf (n : Nat) (X : Nat → Int) (e : Nat) : Nat := if X e < X (nx n e) then e else nx n e
def rt (n : Nat) (X : Nat → Int) (e : Nat) : Nat := if X e < X (nx n e) then nx n e else e
theorem lr_of {e : Nat} {a b : Int} (hab : a < b) (c : cvr n X e a b) : X (lf n X e) ≤ a ∧ b ≤ X (rt n X e) := by
  unfold lf rt
  rcases c with ⟨c1, c2⟩ | ⟨c1, c2⟩
  · rw [if_pos (by omega), if_pos (by omega)]; exact ⟨c1, c2⟩
  · rw [if_neg (by omega), if_neg (by omega)]; exact ⟨c1, c2⟩
theorem lf_lt {e : Nat} (he : e < n) : lf n X e < n := by unfold lf; split; exact he; exact nx_lt he
theorem rt_lt {e : Nat} (he : e < n) : rt n X e < n := by unfold rt; split; exact nx_lt he; exact he
theorem lf_g (R : Rg n X Y m) {e : Nat} (he : e < n) : Y (lf n X e) = gg X Y m e (X (lf n X e)) := by
  unfold lf; split
  · exact gg_self.symm
  · exact (gg_nx R he).symm
theorem rt_g (R : Rg n X Y m) {e : Nat} (he : e < n) : Y (rt n X e) = gg X Y m e (X (rt n X e)) := by
  unfold rt; split
  · exact (gg_nx R he).symm
  · exact gg_self.symm
theorem inner (R : Rg n X Y m) {e k : Nat} (he : e < n) (hk : k < n) (h1 : X (lf n X e) < X k) (h2 : X k < X (rt n X e)) : Y k ≠ gg X Y m e (X k) := by
  unfold lf at h1; unfold rt at h2
  refine R.ver e k he hk (fun z => ?_) (fun z => ?_) ?_
  · rw [z] at h1 h2; split at h1 <;> split at h2 <;> omega
  · rw [z] at h1 h2; split at h1 <;> split at h2 <;> omega
  · split at h1 <;> split at h2 <;> omega
theorem key2 (R : Rg n X Y m) {e f : Nat} (he : e < n) (hf : f < n) (hef : e ≠ f) {a b : Int} (hab : a < b) (ce : cvr n X e a b) (cf : cvr n X f a b)
    (h1 : gg X Y m f a - gg X Y m e a = 0) (h2 : gg X Y m f b - gg X Y m e b = 0) : False := by
  have af := fun t => gg_aff (X := X) (Y := Y) (m := m) (e := e) (f := f) (t := t) (a := a)
  have hB : m f - m e = 0 := by
    have e1 := af b
    rw [h1, h2] at e1
    have hn : ((b : Rat) - (a : Rat)) ≠ 0 := by have := lt_cast hab; grind
    have e2 : ((b : Rat) - (a : Rat)) * (m f - m e) = 0 := by grind
    rcases Rat.mul_eq_zero.mp e2 with z | z
    · exact absurd z hn
    · exact z
  have same : ∀ t : Int, gg X Y m f t = gg X Y m e t := fun t => by
    have := af t
    rw [h1, hB] at this
    grind
  have le := lr_of hab ce
  have lf' := lr_of hab cf
  have eL : lf n X e = lf n X f := by
    refine R.inj _ _ (lf_lt he) (lf_lt hf) ?_
    rcases Int.lt_trichotomy (X (lf n X e)) (X (lf n X f)) with z | z | z
    · exact absurd ((lf_g R hf).trans (same _)) (inner R he (lf_lt hf) z (by omega))
    · exact z
    · exact absurd ((lf_g R he).trans (same _).symm) (inner R hf (lf_lt he) z (by omega))
  have eR : rt n X e = rt n X f := by
    refine R.inj _ _ (rt_lt he) (rt_lt hf) ?_
    rcases Int.lt_trichotomy (X (rt n X e)) (X (rt n X f)) with z | z | z
    · exact absurd ((rt_g R he).trans (same _).symm) (inner R hf (rt_lt he) (by omega) z)
    · exact z
    · exact absurd ((rt_g R hf).trans (same _)) (inner R he (rt_lt hf) (by omega) z)
  have n3 := R.n3
  have A := nx_nx_ne n3 he
  have B := nx_nx_ne n3 hf
  unfold lf at eL
  unfold rt at eR
  split at eL <;> split at eL
  · exact hef eL
  · rename_i u v; rw [if_pos u, if_neg v] at eR; rw [← eL] at B; exact B eR
  · rename_i u v; rw [if_neg u, if_pos v] at eR; rw [← eR] at B; exact absurd (eR ▸ eL : nx n e = f) (fun z => by rw [z] at A; exact A eR.symm)
  · exact hef (nx_inj he hf eL)

theorem c1 (R : Rg n X Y m) {e f : Nat} (he : e < n) (hf : f < n) (hef : e ≠ f) {x : Int} (ce : cvr n X e x (x + 1)) (cf : cvr n X f x (x + 1)) : hh X Y m f x ≠ hh X Y m e x := by
  intro h
  unfold hh at h
  have a := key1a R he hf hef (by omega) ce cf
  have b := key1b R he hf hef (by omega) ce cf
  have c := key2 R he hf hef (by omega) ce cf
  grind
theorem c2 (R : Rg n X Y m) {e f : Nat} (he : e < n) (hf : f < n) (hef : e ≠ f) {x : Int} (ce : cvr n X e x (x + 1 + 1)) (cf : cvr n X f x (x + 1 + 1)) :
    hh X Y m f x < hh X Y m e x ↔ hh X Y m f (x + 1) < hh X Y m e (x + 1) := by
  unfold hh
  have a := key1a R he hf hef (by omega) ce cf
  have b := key1b R he hf hef (by omega) ce cf
  have c := key2 R he hf hef (by omega) ce cf
  have af := gg_aff (X := X) (Y := Y) (m := m) (e := e) (f := f) (t := x + 1) (a := x)
  have ag := gg_aff (X := X) (Y := Y) (m := m) (e := e) (f := f) (t := x + 1 + 1) (a := x)
  have e1 : ((x + 1 : Int) : Rat) - (x : Rat) = 1 := by grind
  have e2 : ((x + 1 + 1 : Int) : Rat) - (x : Rat) = 2 := by grind
  rw [e1] at af
  rw [e2] at ag
  grind
theorem c3 (R : Rg n X Y m) {e f : Nat} (he : e < n) (hf : f < n) (hef : e ≠ f) {x t : Int} (ce : cvr n X e x (x + 1)) (cf : cvr n X f x (x + 1)) (ht : t = x ∨ t = x + 1)
    (hd : gg X Y m f t ≠ gg X Y m e t) : hh X Y m f x < hh X Y m e x ↔ gg X Y m f t < gg X Y m e t := by
  unfold hh
  have a := key1a R he hf hef (by omega) ce cf
  have b := key1b R he hf hef (by omega) ce cf
  rcases ht with rfl | rfl
  · grind
  · grind
end
end Ar
end
/-! ### GArea3 -/
section
set_option linter.all false
namespace Ar
section
variable {n : Nat} {X : Nat → Int} {Y m : Nat → Rat}
def term (n : Nat) (X : Nat → Int) (Y m : Nat → Rat) (e : Nat) (x : Int) (f : Nat) : Rat := if cvr n X f x (x + 1) ∧ hh X Y m f x < hh X Y m e x then sn n X f else 0
theorem term_self {e : Nat} {x : Int} : term n X Y m e x e = 0 := by
  unfold term; rw [if_neg]; intro h; have := h.2; grind
theorem term_no {e f : Nat} {x : Int} (h : ¬ cvr n X f x (x + 1)) : term n X Y m e x f = 0 := by
  unfold term; rw [if_neg fun z => h z.1]
open Classical in
theorem term_yes {e f : Nat} {x : Int} (h : cvr n X f x (x + 1)) : term n X Y m e x f = if hh X Y m f x < hh X Y m e x then sn n X f else 0 := by
  unfold term
  by_cases z : hh X Y m f x < hh X Y m e x
  · rw [if_pos ⟨h, z⟩, if_pos z]
  · rw [if_neg fun q => z q.2, if_neg z]
theorem lam_term {e : Nat} {x : Int} : lam n X Y m e x = sm n (term n X Y m e x) := rfl
open Classical in
/-- along a side -/
theorem along (R : Rg n X Y m) {e : Nat} (he : e < n) {x : Int} (c0 : cvr n X e x (x + 1)) (c1' : cvr n X e (x + 1) (x + 1 + 1)) : lam n X Y m e x = lam n X Y m e (x + 1) := by
  have hz : sm n (term n X Y m e x) - sm n (term n X Y m e (x + 1)) = 0 := by
    rw [← sm_sub]
    rw [sm_congr (g := fun f => (fun k => if X k = x + 1 ∧ Y k < gg X Y m e (x + 1) then (1 : Rat) else 0) (nx n f) - (fun k => if X k = x + 1 ∧ Y k < gg X Y m e (x + 1) then (1 : Rat) else 0) f)]
    · exact sm_tele (F := fun k => if X k = x + 1 ∧ Y k < gg X Y m e (x + 1) then (1 : Rat) else 0)
    intro f hf
    show term n X Y m e x f - term n X Y m e (x + 1) f = (if X (nx n f) = x + 1 ∧ Y (nx n f) < gg X Y m e (x + 1) then (1 : Rat) else 0) - (if X f = x + 1 ∧ Y f < gg X Y m e (x + 1) then (1 : Rat) else 0)
    have hxe : X e ≠ x + 1 := by unfold cvr at c0 c1'; omega
    have hxn : X (nx n e) ≠ x + 1 := by unfold cvr at c0 c1'; omega
    by_cases hfe : f = e
    · subst hfe
      rw [term_self, term_self, if_neg fun z => hxn z.1, if_neg fun z => hxe z.1]
    have cc : cvr n X e x (x + 1 + 1) := by unfold cvr at c0 c1' ⊢; omega
    have nf := nx_lt hf
    have strict : X e < x + 1 ∧ x + 1 < X (nx n e) ∨ X (nx n e) < x + 1 ∧ x + 1 < X e := by unfold cvr at c0 c1'; omega
    have vk : ∀ k, k < n → X k = x + 1 → Y k ≠ gg X Y m e (x + 1) := fun k hk hX => by
      have := R.ver e k he hk (fun z => hxe (by rw [← z]; exact hX)) (fun z => hxn (by rw [← z]; exact hX)) (by rw [hX]; exact strict)
      rw [hX] at this; exact this
    by_cases h1 : X f = x + 1
    · have h2 : X (nx n f) ≠ x + 1 := fun z => nx_ne R.n3 hf (R.inj _ _ nf hf (z.trans h1.symm))
      have hv := vk f hf h1
      have gf : gg X Y m f (x + 1) = Y f := by rw [← h1]; exact gg_self
      rw [if_neg fun z => h2 z.1]
      rcases Int.lt_or_gt_of_ne h2 with h3 | h3
      · have cf : cvr n X f x (x + 1) := by unfold cvr; omega
        have ncf : ¬ cvr n X f (x + 1) (x + 1 + 1) := by unfold cvr; omega
        have sf : sn n X f = -1 := by unfold sn; rw [if_neg (by omega)]
        have k := c3 R he hf (Ne.symm hfe) c0 cf (.inr rfl) (by rw [gf]; exact hv)
        rw [gf] at k
        rw [term_yes cf, term_no ncf, sf]
        by_cases q : Y f < gg X Y m e (x + 1)
        · rw [if_pos (k.mpr q), if_pos ⟨h1, q⟩]; grind
        · rw [if_neg fun z => q (k.mp z), if_neg fun z => q z.2]
      · have cf : cvr n X f (x + 1) (x + 1 + 1) := by unfold cvr; omega
        have ncf : ¬ cvr n X f x (x + 1) := by unfold cvr; omega
        have sf : sn n X f = 1 := by unfold sn; rw [if_pos (by omega)]
        have k := c3 R he hf (Ne.symm hfe) c1' cf (.inl rfl) (by rw [gf]; exact hv)
        rw [gf] at k
        rw [term_yes cf, term_no ncf, sf]
        by_cases q : Y f < gg X Y m e (x + 1)
        · rw [if_pos (k.mpr q), if_pos ⟨h1, q⟩]
        · rw [if_neg fun z => q (k.mp z), if_neg fun z => q z.2]
    · by_cases h2 : X (nx n f) = x + 1
      · have hv := vk (nx n f) nf h2
        have gf : gg X Y m f (x + 1) = Y (nx n f) := by rw [← h2]; exact gg_nx R hf
        rw [if_neg (c := X f = x + 1 ∧ _) fun z => h1 z.1]
        rcases Int.lt_or_gt_of_ne h1 with h3 | h3
        · have cf : cvr n X f x (x + 1) := by unfold cvr; omega
          have ncf : ¬ cvr n X f (x + 1) (x + 1 + 1) := by unfold cvr; omega
          have sf : sn n X f = 1 := by unfold sn; rw [if_pos (by omega)]
          have k := c3 R he hf (Ne.symm hfe) c0 cf (.inr rfl) (by rw [gf]; exact hv)
          rw [gf] at k
          rw [term_yes cf, term_no ncf, sf]
          by_cases q : Y (nx n f) < gg X Y m e (x + 1)
          · rw [if_pos (k.mpr q), if_pos ⟨h2, q⟩]
          · rw [if_neg fun z => q (k.mp z), if_neg fun z => q z.2]
        · have cf : cvr n X f (x + 1) (x + 1 + 1) := by unfold cvr; omega
          have ncf : ¬ cvr n X f x (x + 1) := by unfold cvr; omega
          have sf : sn n X f = -1 := by unfold sn; rw [if_neg (by omega)]
          have k := c3 R he hf (Ne.symm hfe) c1' cf (.inl rfl) (by rw [gf]; exact hv)
          rw [gf] at k
          rw [term_yes cf, term_no ncf, sf]
          by_cases q : Y (nx n f) < gg X Y m e (x + 1)
          · rw [if_pos (k.mpr q), if_pos ⟨h2, q⟩]; grind
          · rw [if_neg fun z => q (k.mp z), if_neg fun z => q z.2]
      · rw [if_neg fun z => h2 z.1, if_neg fun z => h1 z.1]
        by_cases cf : cvr n X f x (x + 1)
        · have cf2 : cvr n X f (x + 1) (x + 1 + 1) := by unfold cvr at cf ⊢; omega
          have cf3 : cvr n X f x (x + 1 + 1) := by unfold cvr at cf ⊢; omega
          have k := c2 R he hf (Ne.symm hfe) cc cf3
          rw [term_yes cf, term_yes cf2]
          by_cases q : hh X Y m f x < hh X Y m e x
          · rw [if_pos q, if_pos (k.mp q)]; grind
          · rw [if_neg q, if_neg fun z => q (k.mpr z)]
        · have ncf2 : ¬ cvr n X f (x + 1) (x + 1 + 1) := by unfold cvr at cf ⊢; omega
          rw [term_no cf, term_no ncf2]
  rw [lam_term, lam_term]; grind
open Classical in
/-- round a corner -/
theorem round (R : Rg n X Y m) {u : Nat} (hu : u < n) {x1 x2 : Int} (d1 : cvr n X u x1 (x1 + 1)) (d2 : cvr n X (nx n u) x2 (x2 + 1))
    (t1 : X (nx n u) = x1 ∨ X (nx n u) = x1 + 1) (t2 : X (nx n u) = x2 ∨ X (nx n u) = x2 + 1) :
    lam n X Y m u x1 + pp n X u = lam n X Y m (nx n u) x2 + pp n X (nx n u) := by
  have hv := nx_lt hu
  have huv : u ≠ nx n u := Ne.symm (nx_ne R.n3 hu)
  have gu : gg X Y m u (X (nx n u)) = Y (nx n u) := gg_nx R hu
  have gv : gg X Y m (nx n u) (X (nx n u)) = Y (nx n u) := gg_self
  have two := sm_two (f := term n X Y m u x1) (g := term n X Y m (nx n u) x2) hu hv huv (fun f hf f1 f2 => by
    have e1 : X f ≠ X (nx n u) := fun z => f2 (R.inj _ _ hf hv z)
    have e2 : X (nx n f) ≠ X (nx n u) := fun z => f1 (nx_inj hf hu (R.inj _ _ (nx_lt hf) hv z))
    by_cases cf : cvr n X f x1 (x1 + 1)
    · have cf2 : cvr n X f x2 (x2 + 1) := by unfold cvr at cf ⊢; omega
      have st : X f < X (nx n u) ∧ X (nx n u) < X (nx n f) ∨ X (nx n f) < X (nx n u) ∧ X (nx n u) < X f := by unfold cvr at cf; omega
      have nv := R.ver f (nx n u) hf hv (Ne.symm f2) (fun z => f1 (nx_inj hf hu z.symm)) st
      have k1 := c3 R hu hf (Ne.symm f1) d1 cf t1 (by rw [gu]; exact Ne.symm nv)
      have k2 := c3 R hv hf (Ne.symm f2) d2 cf2 t2 (by rw [gv]; exact Ne.symm nv)
      rw [gu] at k1
      rw [gv] at k2
      rw [term_yes cf, term_yes cf2]
      by_cases q : gg X Y m f (X (nx n u)) < Y (nx n u)
      · rw [if_pos (k1.mpr q), if_pos (k2.mpr q)]
      · rw [if_neg fun z => q (k1.mp z), if_neg fun z => q (k2.mp z)]
    · have cf2 : ¬ cvr n X f x2 (x2 + 1) := by unfold cvr at cf ⊢; omega
      rw [term_no cf, term_no cf2])
  rw [term_self, term_self] at two
  rw [lam_term, lam_term]
  by_cases a1 : X u < X (nx n u)
  · have x1e : x1 + 1 = X (nx n u) := by unfold cvr at d1; omega
    have su : sn n X u = 1 := by unfold sn; rw [if_pos a1]
    have pu : pp n X u = 1 := by unfold pp; rw [if_pos a1]
    by_cases a2 : X (nx n u) < X (nx n (nx n u))
    · have x2e : x2 = X (nx n u) := by unfold cvr at d2; omega
      have pv : pp n X (nx n u) = 1 := by unfold pp; rw [if_pos a2]
      rw [term_no (f := u) (x := x2) (by unfold cvr; omega), term_no (f := nx n u) (x := x1) (by unfold cvr; omega)] at two
      rw [pu, pv]; grind
    · have x2e : x2 + 1 = X (nx n u) := by unfold cvr at d2; omega
      have ex : x1 = x2 := by omega
      subst ex
      have sv : sn n X (nx n u) = -1 := by unfold sn; rw [if_neg a2]
      have pv : pp n X (nx n u) = 0 := by unfold pp; rw [if_neg a2]
      have ne := c1 R hu hv huv d1 d2
      rw [term_yes d1, term_yes d2, su, sv] at two
      rw [pu, pv]
      by_cases q : hh X Y m (nx n u) x1 < hh X Y m u x1
      · rw [if_pos q, if_neg (by grind)] at two; grind
      · rw [if_neg q, if_pos (by grind)] at two; grind
  · have x1e : x1 = X (nx n u) := by unfold cvr at d1; omega
    have su : sn n X u = -1 := by unfold sn; rw [if_neg a1]
    have pu : pp n X u = 0 := by unfold pp; rw [if_neg a1]
    by_cases a2 : X (nx n u) < X (nx n (nx n u))
    · have x2e : x2 = X (nx n u) := by unfold cvr at d2; omega
      have ex : x1 = x2 := by omega
      subst ex
      have sv : sn n X (nx n u) = 1 := by unfold sn; rw [if_pos a2]
      have pv : pp n X (nx n u) = 1 := by unfold pp; rw [if_pos a2]
      have ne := c1 R hu hv huv d1 d2
      rw [term_yes d1, term_yes d2, su, sv] at two
      rw [pu, pv]
      by_cases q : hh X Y m (nx n u) x1 < hh X Y m u x1
      · rw [if_pos q, if_neg (by grind)] at two; grind
      · rw [if_neg q, if_pos (by grind)] at two; grind
    · have x2e : x2 + 1 = X (nx n u) := by unfold cvr at d2; omega
      have pv : pp n X (nx n u) = 0 := by unfold pp; rw [if_neg a2]
      rw [term_no (f := u) (x := x2) (by unfold cvr; omega), term_no (f := nx n u) (x := x1) (by unfold cvr; omega)] at two
      rw [pu, pv]; grind

/-- the same wherever a side is looked at -/
theorem along_all (R : Rg n X Y m) {e : Nat} (he : e < n) {x : Int} : ∀ (k : Nat), cvr n X e x (x + 1) → cvr n X e (x + k) (x + k + 1) → lam n X Y m e x = lam n X Y m e (x + k)
  | 0, _, _ => by simp
  | k + 1, c0, ck => by
    have e2 : x + ((k + 1 : Nat) : Int) = x + k + 1 := by omega
    have cj : cvr n X e (x + k) (x + k + 1) := by unfold cvr at c0 ck ⊢; omega
    rw [along_all R he k c0 cj, e2]
    rw [e2] at ck
    exact along R he cj ck
theorem along_two (R : Rg n X Y m) {e : Nat} (he : e < n) {x y : Int} (h1 : cvr n X e x (x + 1)) (h2 : cvr n X e y (y + 1)) : lam n X Y m e x = lam n X Y m e y := by
  by_cases h : x ≤ y
  · have := along_all R he (x := x) (y - x).toNat h1 (by have : x + ((y - x).toNat : Int) = y := by omega
                                                         rw [this]; exact h2)
    have e : x + ((y - x).toNat : Int) = y := by omega
    rw [e] at this; exact this
  · have := along_all R he (x := y) (x - y).toNat h2 (by have : y + ((x - y).toNat : Int) = x := by omega
                                                         rw [this]; exact h1)
    have e : y + ((x - y).toNat : Int) = x := by omega
    rw [e] at this; exact this.symm
/-- a place at which a side ends: seen from its end, its beginning -/
theorem at_end (R : Rg n X Y m) {e : Nat} (he : e < n) : ∃ x, cvr n X e x (x + 1) ∧ (X (nx n e) = x ∨ X (nx n e) = x + 1) := by
  have ne : X (nx n e) ≠ X e := fun z => nx_ne R.n3 he (R.inj _ _ (nx_lt he) he z)
  by_cases h : X e < X (nx n e)
  · exact ⟨X (nx n e) - 1, by unfold cvr; omega, by omega⟩
  · exact ⟨X (nx n e), by unfold cvr; omega, by omega⟩
theorem at_start (R : Rg n X Y m) {e : Nat} (he : e < n) : ∃ x, cvr n X e x (x + 1) ∧ (X e = x ∨ X e = x + 1) := by
  have ne : X (nx n e) ≠ X e := fun z => nx_ne R.n3 he (R.inj _ _ (nx_lt he) he z)
  by_cases h : X e < X (nx n e)
  · exact ⟨X e, by unfold cvr; omega, by omega⟩
  · exact ⟨X e - 1, by unfold cvr; omega, by omega⟩
theorem const (R : Rg n X Y m) : ∃ c : Rat, ∀ e, e < n → ∀ x, cvr n X e x (x + 1) → lam n X Y m e x = c - pp n X e := by
  have h0 : 0 < n := by have := R.n3; omega
  obtain ⟨x0, k0, _⟩ := at_end R h0
  refine ⟨lam n X Y m 0 x0 + pp n X 0, ?_⟩
  intro e
  induction e with
  | zero =>
    intro _ x hx
    rw [along_two R h0 hx k0]; grind
  | succ e ih =>
    intro he x hx
    have he' : e < n := by omega
    obtain ⟨x1, k1, t1⟩ := at_end R he'
    have en : nx n e = e + 1 := by unfold nx; rw [if_neg (by omega)]
    obtain ⟨x2, k2, t2⟩ := at_start R he
    have r := round R he' (x1 := x1) (x2 := x2) k1 (by rw [en]; exact k2) t1 (by rw [en]; exact t2)
    have i := ih he' x1 k1
    rw [en] at r
    rw [along_two R he hx k2]
    grind

/-! ## One slab -/
def sl (n : Nat) (X : Nat → Int) (Y m : Nat → Rat) (x : Int) (k : Nat) : List (Rat × Bool) :=
  ((List.range k).filter fun e => decide (cvr n X e x (x + 1))).map fun e => (hh X Y m e x, decide (X e < X (nx n e)))
theorem sl_succ {x : Int} {k : Nat} : sl n X Y m x (k + 1) = sl n X Y m x k ++ (if cvr n X k x (x + 1) then [(hh X Y m k x, decide (X k < X (nx n k)))] else []) := by
  unfold sl
  rw [List.range_succ, List.filter_append, List.map_append]
  by_cases h : cvr n X k x (x + 1)
  · rw [if_pos h]; simp [h]
  · rw [if_neg h]; simp [h]
theorem tot_app : ∀ (l r : List (Rat × Bool)), tot (l ++ r) = tot l + tot r
  | [], r => by show tot r = 0 + tot r; grind
  | p :: l, r => by
    show tot (p :: (l ++ r)) = _
    rw [tot_cons, tot_cons, tot_app l r]; grind
theorem mom_app : ∀ (l r : List (Rat × Bool)), mom (l ++ r) = mom l + mom r
  | [], r => by show mom r = 0 + mom r; grind
  | p :: l, r => by
    show mom (p :: (l ++ r)) = _
    rw [mom_cons, mom_cons, mom_app l r]; grind
theorem low_app (h : Rat) : ∀ (l r : List (Rat × Bool)), low h (l ++ r) = low h l + low h r
  | [], r => by show low h r = 0 + low h r; grind
  | p :: l, r => by
    show low h (p :: (l ++ r)) = _
    rw [low_cons, low_cons, low_app h l r]; grind
theorem sg_sn {k : Nat} : sg (decide (X k < X (nx n k))) = sn n X k := by
  unfold sg sn; by_cases h : X k < X (nx n k) <;> simp [h]
theorem tot_sl {x : Int} : ∀ {k : Nat}, tot (sl n X Y m x k) = sm k fun f => if cvr n X f x (x + 1) then sn n X f else 0
  | 0 => rfl
  | k + 1 => by
    rw [sl_succ, tot_app, tot_sl (k := k)]
    show _ = sm k _ + (if cvr n X k x (x + 1) then sn n X k else 0)
    by_cases h : cvr n X k x (x + 1)
    · rw [if_pos h, if_pos h, tot_cons]
      show _ + (sg (decide (X k < X (nx n k))) + 0) = _
      rw [sg_sn]; grind
    · rw [if_neg h, if_neg h]; rfl
theorem mom_sl {x : Int} : ∀ {k : Nat}, mom (sl n X Y m x k) = sm k fun f => if cvr n X f x (x + 1) then sn n X f * hh X Y m f x else 0
  | 0 => rfl
  | k + 1 => by
    rw [sl_succ, mom_app, mom_sl (k := k)]
    show _ = sm k _ + (if cvr n X k x (x + 1) then sn n X k * hh X Y m k x else 0)
    by_cases h : cvr n X k x (x + 1)
    · rw [if_pos h, if_pos h, mom_cons]
      show _ + (sg (decide (X k < X (nx n k))) * hh X Y m k x + 0) = _
      rw [sg_sn]; grind
    · rw [if_neg h, if_neg h]; rfl
theorem low_sl {x : Int} {e : Nat} : ∀ {k : Nat}, low (hh X Y m e x) (sl n X Y m x k) = sm k (term n X Y m e x)
  | 0 => rfl
  | k + 1 => by
    rw [sl_succ, low_app, low_sl (k := k)]
    show _ = sm k _ + term n X Y m e x k
    by_cases h : cvr n X k x (x + 1)
    · rw [if_pos h, term_yes h, low_cons]
      show _ + ((if hh X Y m k x < hh X Y m e x then sg (decide (X k < X (nx n k))) else 0) + 0) = _
      rw [sg_sn]
      by_cases h1 : hh X Y m k x < hh X Y m e x
      · rw [if_pos h1]; grind
      · rw [if_neg h1]; grind
    · rw [if_neg h, term_no h]; rfl
theorem tot_zero (R : Rg n X Y m) {x : Int} : tot (sl n X Y m x n) = 0 := by
  rw [tot_sl, sm_congr (g := fun f => (fun k => if x + 1 ≤ X k then (1 : Rat) else 0) (nx n f) - (fun k => if x + 1 ≤ X k then (1 : Rat) else 0) f)]
  · exact sm_tele (F := fun k => if x + 1 ≤ X k then (1 : Rat) else 0)
  intro f hf
  show (if cvr n X f x (x + 1) then sn n X f else 0) = (if x + 1 ≤ X (nx n f) then (1 : Rat) else 0) - (if x + 1 ≤ X f then (1 : Rat) else 0)
  by_cases a : x + 1 ≤ X (nx n f) <;> by_cases b : x + 1 ≤ X f
  · rw [if_neg (show ¬ cvr n X f x (x + 1) by unfold cvr; omega), if_pos a, if_pos b]; grind
  · have sf : sn n X f = 1 := by unfold sn; rw [if_pos (by omega)]
    rw [if_pos (show cvr n X f x (x + 1) by unfold cvr; omega), if_pos a, if_neg b, sf]; grind
  · have sf : sn n X f = -1 := by unfold sn; rw [if_neg (by omega)]
    rw [if_pos (show cvr n X f x (x + 1) by unfold cvr; omega), if_neg a, if_pos b, sf]; grind
  · rw [if_neg (show ¬ cvr n X f x (x + 1) by unfold cvr; omega), if_neg a, if_neg b]; grind
theorem sl_nd (R : Rg n X Y m) {x : Int} : ((sl n X Y m x n).map (·.1)).Nodup := by
  have e : (sl n X Y m x n).map (·.1) = ((List.range n).filter fun e => decide (cvr n X e x (x + 1))).map fun e => hh X Y m e x := by simp [sl]
  rw [e]
  unfold List.Nodup
  rw [List.pairwise_map]
  have nd : ((List.range n).filter fun e => decide (cvr n X e x (x + 1))).Nodup := List.Pairwise.filter _ List.nodup_range
  refine List.Pairwise.imp_of_mem ?_ nd
  intro a b ha hb hab
  simp only [List.mem_filter, List.mem_range, decide_eq_true_eq] at ha hb
  exact c1 R hb.1 ha.1 (Ne.symm hab) hb.2 ha.2
theorem sl_low (R : Rg n X Y m) {c : Rat} (hc : ∀ e, e < n → ∀ x, cvr n X e x (x + 1) → lam n X Y m e x = c - pp n X e) {x : Int} :
    ∀ p ∈ sl n X Y m x n, low p.1 (sl n X Y m x n) = c - (if p.2 = true then 1 else 0) := by
  intro p hp
  unfold sl at hp
  obtain ⟨e, he, rfl⟩ := List.mem_map.mp hp
  simp only [List.mem_filter, List.mem_range, decide_eq_true_eq] at he
  show low (hh X Y m e x) _ = _
  rw [low_sl, ← lam_term, hc e he.1 x he.2]
  unfold pp
  simp
theorem sl_ne {x : Int} {e : Nat} (he : e < n) (c : cvr n X e x (x + 1)) : sl n X Y m x n ≠ [] := by
  intro h
  have : (hh X Y m e x, decide (X e < X (nx n e))) ∈ sl n X Y m x n := List.mem_map.mpr ⟨e, by simp [he, c], rfl⟩
  rw [h] at this; simp at this

/-! ## The whole -/
theorem side_sum {lo hi : Int} {e : Nat} (h0 : 0 ≤ lo) (hlh : lo ≤ hi) : ∀ {N : Nat},
    sm N (fun x => if lo ≤ (x : Int) ∧ (x : Int) + 1 ≤ hi then hh X Y m e x else 0) =
      if (N : Int) ≤ lo then 0 else if (N : Int) ≤ hi then ((N : Int) - lo : Int) * (gg X Y m e lo + gg X Y m e N) else (hi - lo : Int) * (gg X Y m e lo + gg X Y m e hi)
  | 0 => by rw [if_pos (by simpa using h0)]; rfl
  | N + 1 => by
    show sm N _ + (if lo ≤ (N : Int) ∧ (N : Int) + 1 ≤ hi then hh X Y m e N else 0) = _
    rw [side_sum h0 hlh (N := N)]
    have cst : ((N + 1 : Nat) : Int) = (N : Int) + 1 := by omega
    rw [cst]
    by_cases a : (N : Int) + 1 ≤ lo
    · rw [if_pos (show (N : Int) ≤ lo by omega), if_neg (show ¬ (lo ≤ (N : Int) ∧ (N : Int) + 1 ≤ hi) by omega), if_pos a]; grind
    · rw [if_neg a]
      by_cases b : (N : Int) + 1 ≤ hi
      · rw [if_pos (show lo ≤ (N : Int) ∧ (N : Int) + 1 ≤ hi by omega), if_pos b]
        by_cases d : (N : Int) ≤ lo
        · have : (N : Int) = lo := by omega
          rw [if_pos d, ← this]
          unfold hh gg; grind
        · rw [if_neg d, if_pos (show (N : Int) ≤ hi by omega)]
          unfold hh gg; grind
      · rw [if_neg (show ¬ (lo ≤ (N : Int) ∧ (N : Int) + 1 ≤ hi) by omega), if_neg b]
        by_cases d : (N : Int) ≤ lo
        · have z : (N : Int) = lo := by omega
          have z2 : hi = lo := by omega
          rw [if_pos d, z2]
          have z3 : ((lo - lo : Int) : Rat) = 0 := by
            have : lo - lo = 0 := by omega
            rw [this]; rfl
          rw [z3]; grind
        · rw [if_neg d]
          by_cases q : (N : Int) ≤ hi
          · have : (N : Int) = hi := by omega
            rw [if_pos q, this]; grind
          · rw [if_neg q]; grind
theorem one_side (R : Rg n X Y m) {N : Nat} (hX : ∀ i, i < n → 0 ≤ X i ∧ X i < N) {e : Nat} (he : e < n) :
    ((X (nx n e) - X e : Int) : Rat) * (Y e + Y (nx n e)) = sm N fun x => if cvr n X e x ((x : Int) + 1) then sn n X e * hh X Y m e x else 0 := by
  have b1 := hX e he
  have b2 := hX (nx n e) (nx_lt he)
  have ne : X (nx n e) ≠ X e := fun z => nx_ne R.n3 he (R.inj _ _ (nx_lt he) he z)
  have g1 : gg X Y m e (X e) = Y e := gg_self
  have g2 := gg_nx R he
  by_cases h : X e < X (nx n e)
  · have s := side_sum (X := X) (Y := Y) (m := m) (e := e) b1.1 (Int.le_of_lt h) (N := N)
    rw [if_neg (by omega), if_neg (by omega), g1, g2] at s
    rw [← s]
    refine sm_congr fun x _ => ?_
    have sf : sn n X e = 1 := by unfold sn; rw [if_pos h]
    rw [sf]
    by_cases q : X e ≤ (x : Int) ∧ (x : Int) + 1 ≤ X (nx n e)
    · rw [if_pos q, if_pos (show cvr n X e x ((x : Int) + 1) from .inl q)]; grind
    · rw [if_neg q, if_neg (show ¬ cvr n X e x ((x : Int) + 1) by unfold cvr; omega)]
  · have s := side_sum (X := X) (Y := Y) (m := m) (e := e) b2.1 (show X (nx n e) ≤ X e by omega) (N := N)
    rw [if_neg (by omega), if_neg (by omega), g1, g2] at s
    have e1 : ((X (nx n e) - X e : Int) : Rat) * (Y e + Y (nx n e)) = -1 * (((X e - X (nx n e) : Int) : Rat) * (Y (nx n e) + Y e)) := by grind
    rw [e1, ← s, ← sm_mul]
    refine sm_congr fun x _ => ?_
    have sf : sn n X e = -1 := by unfold sn; rw [if_neg h]
    rw [sf]
    by_cases q : X (nx n e) ≤ (x : Int) ∧ (x : Int) + 1 ≤ X e
    · rw [if_pos q, if_pos (show cvr n X e x ((x : Int) + 1) from .inr q)]
    · rw [if_neg q, if_neg (show ¬ cvr n X e x ((x : Int) + 1) by unfold cvr; omega)]; grind
/-- **It has an area.** -/
theorem area_ne (R : Rg n X Y m) {N : Nat} (hX : ∀ i, i < n → 0 ≤ X i ∧ X i < N) : sm n (fun e => ((X (nx n e) - X e : Int) : Rat) * (Y e + Y (nx n e))) ≠ 0 := by
  obtain ⟨c, hc⟩ := const R
  have e1 : sm n (fun e => ((X (nx n e) - X e : Int) : Rat) * (Y e + Y (nx n e))) = sm N fun x => mom (sl n X Y m (x : Int) n) := by
    rw [sm_congr fun e he => one_side R hX he, sm_swap]
    exact sm_congr fun x _ => (mom_sl).symm
  have h0 : 0 < n := by have := R.n3; omega
  obtain ⟨x0, k0, _⟩ := at_end R h0
  have b0 := hX 0 h0
  have b1 := hX (nx n 0) (nx_lt h0)
  have x0r : 0 ≤ x0 ∧ x0 < N := by unfold cvr at k0; omega
  have cx : ((x0.toNat : Nat) : Int) = x0 := by omega
  have c01 := slab_c (sl_nd R) (sl_low R hc) (sl_ne (Y := Y) (m := m) h0 k0)
  rw [e1]
  rcases c01 with rfl | rfl
  · have pos : ∀ x : Int, sl n X Y m x n ≠ [] → 0 < mom (sl n X Y m x n) := fun x hx => slab0 (sl_nd R) (tot_zero R) (sl_low R hc) hx
    have lt := sm_lt (f := fun x => - mom (sl n X Y m (x : Int) n)) (n := N) (fun x _ => by
      by_cases z : sl n X Y m (x : Int) n = []
      · show - mom (sl n X Y m (x : Int) n) ≤ 0
        rw [z]; show - (0 : Rat) ≤ 0; grind
      · have := pos _ z; grind) ⟨x0.toNat, by omega, by
        have := pos x0 (sl_ne (Y := Y) (m := m) h0 k0)
        rw [cx]; grind⟩
    have e2 : sm N (fun x => - mom (sl n X Y m (x : Int) n)) = -1 * sm N (fun x => mom (sl n X Y m (x : Int) n)) := by
      rw [← sm_mul]; exact sm_congr fun x _ => by grind
    grind
  · have neg : ∀ x : Int, sl n X Y m x n ≠ [] → mom (sl n X Y m x n) < 0 := fun x hx => slab1 _ _ (Nat.le_refl _) (sl_nd R) (tot_zero R) (sl_low R hc) hx
    have lt := sm_lt (f := fun x => mom (sl n X Y m (x : Int) n)) (n := N) (fun x _ => by
      by_cases z : sl n X Y m (x : Int) n = []
      · show mom (sl n X Y m (x : Int) n) ≤ 0
        rw [z]; show (0 : Rat) ≤ 0; grind
      · have := neg _ z; grind) ⟨x0.toNat, by omega, by
        have := neg x0 (sl_ne (Y := Y) (m := m) h0 k0)
        rw [cx]; exact this⟩
    grind
end
end Ar
end
/-! ### GSimple -/
section
set_option linter.all false
namespace Ge
open LsGeo
/-! The program's own look at a ring, and the specification's. -/
def goesBack (a b c : Pt) : Bool := if turn a b c ≠ 0 then false else decide ((b.x - a.x) * (c.x - b.x) + (b.y - a.y) * (c.y - b.y) < 0)
def fits (s : List (Pt × Pt)) (i j : Nat) : Bool := match s[i]?, s[j]? with
  | some u, some v => if j = i + 1 then !goesBack u.1 u.2 v.2 else if i = 0 ∧ j + 1 = s.length then !goesBack v.1 v.2 u.2 else !meet u.1 u.2 v.1 v.2
  | _, _ => true
def isSimple (l : List Pt) : Bool := decide (3 ≤ l.length) && (decide l.Nodup && (List.range l.length).all fun i => (List.range l.length).all fun j => !decide (i < j) || fits (sides l) i j)
/-- coordinates as they may be -/
def inB (p : Pt) : Prop := 0 ≤ p.x ∧ p.x ≤ 999999 ∧ 0 ≤ p.y ∧ p.y ≤ 999999

theorem turn_cyc (a b c : Pt) : turn b c a = turn a b c := by unfold turn; grind
theorem meet_comm (a b c d : Pt) : meet a b c d = meet c d a b := by
  unfold meet
  simp only
  cases (decide (0 < turn a b c) && decide (turn a b d < 0) || decide (turn a b c < 0) && decide (0 < turn a b d)) <;>
  cases (decide (0 < turn c d a) && decide (turn c d b < 0) || decide (turn c d a < 0) && decide (0 < turn c d b)) <;>
  cases onSide c a b <;> cases onSide d a b <;> cases onSide a c d <;> cases onSide b c d <;> rfl
theorem onSide_iff {p a b : Pt} : onSide p a b = true ↔ turn a b p = 0 ∧ ((a.x ≤ p.x ∧ p.x ≤ b.x) ∨ (b.x ≤ p.x ∧ p.x ≤ a.x)) ∧ ((a.y ≤ p.y ∧ p.y ≤ b.y) ∨ (b.y ≤ p.y ∧ p.y ≤ a.y)) := by
  unfold onSide
  simp only [Bool.and_eq_true, beq_iff_eq, decide_eq_true_eq]
  constructor
  · rintro ⟨h, h1, h2, h3, h4⟩
    refine ⟨h, ?_, ?_⟩ <;> omega
  · rintro ⟨h, h1, h2⟩
    refine ⟨h, ?_, ?_, ?_, ?_⟩ <;> omega
theorem goesBack_iff {a b c : Pt} : goesBack a b c = true ↔ turn a b c = 0 ∧ (b.x - a.x) * (c.x - b.x) + (b.y - a.y) * (c.y - b.y) < 0 := by
  unfold goesBack
  by_cases h : turn a b c = 0
  · simp [h]
  · simp [h]
theorem imul_nonneg {a b : Int} (h : (0 ≤ a ∧ 0 ≤ b) ∨ (a ≤ 0 ∧ b ≤ 0)) : 0 ≤ a * b := by
  rcases h with ⟨h1, h2⟩ | ⟨h1, h2⟩
  · exact Int.mul_nonneg h1 h2
  · have := Int.mul_nonneg (a := -a) (b := -b) (by omega) (by omega)
    grind
theorem imul_nonpos {a b : Int} (h : (0 ≤ a ∧ b ≤ 0) ∨ (a ≤ 0 ∧ 0 ≤ b)) : a * b ≤ 0 := by
  rcases h with ⟨h1, h2⟩ | ⟨h1, h2⟩
  · have := Int.mul_nonneg (a := a) (b := -b) (by omega) (by omega)
    grind
  · have := Int.mul_nonneg (a := -a) (b := b) (by omega) (by omega)
    grind
theorem imul_pos {a b : Int} (h : (0 < a ∧ 0 < b) ∨ (a < 0 ∧ b < 0)) : 0 < a * b := by
  rcases h with ⟨h1, h2⟩ | ⟨h1, h2⟩
  · exact Int.mul_pos h1 h2
  · have := Int.mul_pos (a := -a) (b := -b) (by omega) (by omega)
    grind
theorem imul_neg {a b : Int} (h : (0 < a ∧ b < 0) ∨ (a < 0 ∧ 0 < b)) : a * b < 0 := by
  rcases h with ⟨h1, h2⟩ | ⟨h1, h2⟩
  · have := Int.mul_pos (a := a) (b := -b) (by omega) (by omega)
    grind
  · have := Int.mul_pos (a := -a) (b := b) (by omega) (by omega)
    grind
/-- w lies between 0 and -u in each coordinate: they don't point one way -/
theorem back_le {ux wx : Int} (h : (0 ≤ wx ∧ wx ≤ -ux) ∨ (-ux ≤ wx ∧ wx ≤ 0)) : ux * wx ≤ 0 ∧ (wx ≠ 0 → ux * wx < 0) := by
  refine ⟨imul_nonpos (by omega), fun hw => imul_neg (by omega)⟩
/-- two ways one behind another, all on a line -/
theorem opp {ux uy wx wy : Int} (hc : ux * wy = uy * wx) (hd : ux * wx + uy * wy < 0) : ux * wx ≤ 0 ∧ uy * wy ≤ 0 := by
  have sq : 0 ≤ (ux * wx) * (uy * wy) := by
    have e : (ux * wx) * (uy * wy) = (ux * wy) * (ux * wy) := by
      have : (ux * wx) * (uy * wy) = (ux * wy) * (uy * wx) := by grind
      rw [this, ← hc]
    rw [e]
    exact imul_nonneg (by omega)
  constructor
  · apply Classical.byContradiction
    intro h
    have := imul_neg (a := ux * wx) (b := uy * wy) (.inl ⟨by omega, by omega⟩)
    omega
  · apply Classical.byContradiction
    intro h
    have := imul_neg (a := ux * wx) (b := uy * wy) (.inr ⟨by omega, by omega⟩)
    omega
theorem between_of {ux wx : Int} (h : ux * wx ≤ 0) (h2 : wx.natAbs ≤ ux.natAbs) : (0 ≤ wx ∧ wx ≤ -ux) ∨ (-ux ≤ wx ∧ wx ≤ 0) := by
  apply Classical.byContradiction
  intro hn
  have := imul_pos (a := ux) (b := wx) (by omega)
  omega
theorem abs_le {ux uy wx wy : Int} (hc : ux * wy = uy * wx) (h : wx.natAbs < ux.natAbs) : wy.natAbs ≤ uy.natAbs := by
  apply Classical.byContradiction
  intro hn
  have e : ux.natAbs * wy.natAbs = uy.natAbs * wx.natAbs := by rw [← Int.natAbs_mul, ← Int.natAbs_mul, hc]
  have e1 : uy.natAbs * wx.natAbs ≤ uy.natAbs * ux.natAbs := Nat.mul_le_mul_left _ (by omega)
  have e2 : ux.natAbs * uy.natAbs < ux.natAbs * wy.natAbs := Nat.mul_lt_mul_of_pos_left (by omega) (by omega)
  rw [Nat.mul_comm uy.natAbs ux.natAbs] at e1
  omega
theorem corner_eq {a b c : Pt} (hab : a ≠ b) (hbc : b ≠ c) : corner a b c = !goesBack a b c := by
  have key : (onSide c a b || onSide a b c) = goesBack a b c := by
    rw [Bool.eq_iff_iff, Bool.or_eq_true, onSide_iff, onSide_iff, goesBack_iff, turn_cyc a b c]
    have hab' : ¬ (a.x = b.x ∧ a.y = b.y) := fun z => hab (by cases a; cases b; simp at z ⊢; exact z)
    have hbc' : ¬ (b.x = c.x ∧ b.y = c.y) := fun z => hbc (by cases b; cases c; simp at z ⊢; exact z)
    constructor
    · rintro (⟨h, h1, h2⟩ | ⟨h, h1, h2⟩)
      · refine ⟨h, ?_⟩
        have b1 := back_le (ux := b.x - a.x) (wx := c.x - b.x) (by omega)
        have b2 := back_le (ux := b.y - a.y) (wx := c.y - b.y) (by omega)
        omega
      · refine ⟨h, ?_⟩
        have b1 := back_le (ux := c.x - b.x) (wx := b.x - a.x) (by omega)
        have b2 := back_le (ux := c.y - b.y) (wx := b.y - a.y) (by omega)
        have e1 : (c.x - b.x) * (b.x - a.x) = (b.x - a.x) * (c.x - b.x) := Int.mul_comm _ _
        have e2 : (c.y - b.y) * (b.y - a.y) = (b.y - a.y) * (c.y - b.y) := Int.mul_comm _ _
        omega
    · rintro ⟨h, hd⟩
      have hc : (b.x - a.x) * (c.y - b.y) = (b.y - a.y) * (c.x - b.x) := by unfold turn at h; grind
      have o := opp hc hd
      by_cases q : (c.x - b.x).natAbs ≤ (b.x - a.x).natAbs ∧ (c.y - b.y).natAbs ≤ (b.y - a.y).natAbs
      · left
        refine ⟨h, ?_, ?_⟩
        · have := between_of o.1 q.1; omega
        · have := between_of o.2 q.2; omega
      · right
        have q2 : (b.x - a.x).natAbs ≤ (c.x - b.x).natAbs ∧ (b.y - a.y).natAbs ≤ (c.y - b.y).natAbs := by
          by_cases z : (b.x - a.x).natAbs < (c.x - b.x).natAbs
          · exact ⟨by omega, abs_le (ux := c.x - b.x) (uy := c.y - b.y) (wx := b.x - a.x) (wy := b.y - a.y) (by grind) z⟩
          · have z2 : (b.y - a.y).natAbs < (c.y - b.y).natAbs := by omega
            exact ⟨abs_le (ux := c.y - b.y) (uy := c.x - b.x) (wx := b.y - a.y) (wy := b.x - a.x) (by grind) z2, by omega⟩
        have o1 : (c.x - b.x) * (b.x - a.x) ≤ 0 := by rw [Int.mul_comm]; exact o.1
        have o2 : (c.y - b.y) * (b.y - a.y) ≤ 0 := by rw [Int.mul_comm]; exact o.2
        refine ⟨h, ?_, ?_⟩
        · have := between_of o1 q2.1; omega
        · have := between_of o2 q2.2; omega
  unfold corner
  rw [key]

/-! ## A ring by its places -/
def at_ (l : List Pt) (i : Nat) : Pt := l.getD i ⟨0, 0⟩
theorem at_get {l : List Pt} {i : Nat} (h : i < l.length) : l[i]? = some (at_ l i) := by
  unfold at_; rw [List.getD_eq_getElem?_getD, List.getElem?_eq_getElem h]; rfl
theorem sides_len (l : List Pt) : (sides l).length = l.length := by
  unfold sides; simp; cases l <;> simp
theorem sides_get {l : List Pt} {i : Nat} (h : i < l.length) : (sides l)[i]? = some (at_ l i, at_ l (Ar.nx l.length i)) := by
  unfold sides
  rw [List.getElem?_zip_eq_some]
  refine ⟨at_get h, ?_⟩
  unfold Ar.nx
  by_cases e : i + 1 = l.length
  · rw [if_pos e, List.getElem?_append_right (by simp; omega)]
    have : i - (l.drop 1).length = 0 := by simp; omega
    rw [this, List.getElem?_take, if_pos (by omega)]
    exact at_get (by omega)
  · rw [if_neg e, List.getElem?_append_left (by simp; omega), List.getElem?_drop]
    have : 1 + i = i + 1 := by omega
    rw [this]
    exact at_get (by omega)
theorem nodup_at {l : List Pt} (h : l.Nodup) {i j : Nat} (hi : i < l.length) (hj : j < l.length) (e : at_ l i = at_ l j) : i = j := by
  have a := at_get hi
  have b := at_get hj
  rw [e] at a
  rw [List.getElem?_eq_getElem hi] at a
  rw [List.getElem?_eq_getElem hj] at b
  exact (List.getElem_inj h).mp ((Option.some.inj a).trans (Option.some.inj b).symm)
def KK : Int := 1000000
def XX (l : List Pt) (i : Nat) : Int := 1000000 * (at_ l i).x + (at_ l i).y
def YY (l : List Pt) (i : Nat) : Rat := ((at_ l i).y : Rat)
def SL (l : List Pt) (i : Nat) : Rat := (YY l (Ar.nx l.length i) - YY l i) / (((XX l (Ar.nx l.length i) - XX l i : Int)) : Rat)
theorem at_inB {l : List Pt} (h : ∀ p ∈ l, inB p) {i : Nat} (hi : i < l.length) : inB (at_ l i) := h _ (List.mem_of_getElem? (at_get hi))
theorem XX_inj {l : List Pt} (hb : ∀ p ∈ l, inB p) (nd : l.Nodup) {i j : Nat} (hi : i < l.length) (hj : j < l.length) (e : XX l i = XX l j) : i = j := by
  have a := at_inB hb hi
  have b := at_inB hb hj
  refine nodup_at nd hi hj ?_
  unfold XX at e
  unfold inB at a b
  have : (at_ l i).x = (at_ l j).x ∧ (at_ l i).y = (at_ l j).y := by omega
  cases h1 : at_ l i; cases h2 : at_ l j
  rw [h1, h2] at this
  simp at this ⊢; exact this
/-- what the sides say of two places' turn -/
theorem side_turn {l : List Pt} {e k : Nat} (he : XX l (Ar.nx l.length e) ≠ XX l e) :
    ((XX l (Ar.nx l.length e) - XX l e : Int) : Rat) * (YY l k - Ar.gg (XX l) (YY l) (SL l) e (XX l k)) = 1000000 * ((turn (at_ l e) (at_ l (Ar.nx l.length e)) (at_ l k) : Int) : Rat) := by
  have hn : ((XX l (Ar.nx l.length e) - XX l e : Int) : Rat) ≠ 0 := by
    intro z
    have z2 : XX l (Ar.nx l.length e) - XX l e = 0 := Rat.intCast_eq_zero_iff.mp z
    omega
  have hs : SL l e * ((XX l (Ar.nx l.length e) - XX l e : Int) : Rat) = YY l (Ar.nx l.length e) - YY l e := by
    unfold SL; exact Rat.div_mul_cancel hn
  unfold Ar.gg
  have e1 : ((XX l (Ar.nx l.length e) - XX l e : Int) : Rat) * (YY l k - (YY l e + ((XX l k : Rat) - (XX l e : Rat)) * SL l e)) =
      ((XX l (Ar.nx l.length e) - XX l e : Int) : Rat) * (YY l k - YY l e) - ((XX l k : Rat) - (XX l e : Rat)) * (YY l (Ar.nx l.length e) - YY l e) := by
    rw [← hs]; grind
  rw [e1]
  unfold XX YY turn
  grind
theorem sq_pos {a : Rat} (h : a ≠ 0) : 0 < a * a := by
  by_cases z : 0 < a
  · exact Rat.mul_pos z z
  · have := Rat.mul_pos (a := -a) (b := -a) (by grind) (by grind); grind
theorem prod_neg {D s1 s2 : Rat} {t1 t2 : Int} (hD : D ≠ 0) (h1 : D * s1 = 1000000 * (t1 : Rat)) (h2 : D * s2 = 1000000 * (t2 : Rat)) (h : s1 * s2 < 0) :
    (0 < t1 ∧ t2 < 0) ∨ (t1 < 0 ∧ 0 < t2) := by
  have e : (D * D) * (s1 * s2) = (1000000 * 1000000) * ((t1 * t2 : Int) : Rat) := by
    have : (D * D) * (s1 * s2) = (D * s1) * (D * s2) := by grind
    rw [this, h1, h2]; grind
  have n1 : (D * D) * (s1 * s2) < 0 := Ar.mulneg (.inr ⟨sq_pos hD, h⟩)
  have n2 : ((t1 * t2 : Int) : Rat) < ((0 : Int) : Rat) := by
    rw [e] at n1; grind
  have n3 : t1 * t2 < 0 := Rat.intCast_lt_intCast.mp n2
  rcases Int.lt_trichotomy t1 0 with z | z | z
  · right
    refine ⟨z, ?_⟩
    apply Classical.byContradiction
    intro w
    have := imul_nonneg (a := t1) (b := t2) (by omega)
    omega
  · rw [z] at n3; simp at n3
  · left
    refine ⟨z, ?_⟩
    apply Classical.byContradiction
    intro w
    have := imul_nonneg (a := t1) (b := t2) (by omega)
    omega

/-! ## The whole -/
theorem fits_get {l : List Pt} {i j : Nat} (hi : i < l.length) (hj : j < l.length) : fits (sides l) i j =
    (if j = i + 1 then !goesBack (at_ l i) (at_ l (Ar.nx l.length i)) (at_ l (Ar.nx l.length j))
      else if i = 0 ∧ j + 1 = l.length then !goesBack (at_ l j) (at_ l (Ar.nx l.length j)) (at_ l (Ar.nx l.length i))
      else !meet (at_ l i) (at_ l (Ar.nx l.length i)) (at_ l j) (at_ l (Ar.nx l.length j))) := by
  unfold fits
  rw [sides_get hi, sides_get hj, sides_len]
structure Simp (l : List Pt) : Prop where
  n3 : 3 ≤ l.length
  nd : l.Nodup
  back : ∀ i, i < l.length → goesBack (at_ l i) (at_ l (Ar.nx l.length i)) (at_ l (Ar.nx l.length (Ar.nx l.length i))) = false
  apart : ∀ i j, i < l.length → j < l.length → i ≠ j → Ar.nx l.length i ≠ j → Ar.nx l.length j ≠ i → meet (at_ l i) (at_ l (Ar.nx l.length i)) (at_ l j) (at_ l (Ar.nx l.length j)) = false
theorem isSimple_iff {l : List Pt} : isSimple l = true ↔ Simp l := by
  unfold isSimple
  simp only [Bool.and_eq_true, decide_eq_true_eq, List.all_eq_true, List.mem_range, Bool.or_eq_true, Bool.not_eq_true', decide_eq_false_iff_not]
  constructor
  · rintro ⟨h3, nd, h⟩
    have F : ∀ i j, i < j → j < l.length → fits (sides l) i j = true := fun i j hij hj => by
      rcases h i (by omega) j hj with z | z
      · exact absurd hij z
      · exact z
    refine ⟨h3, nd, fun i hi => ?_, fun i j hi hj hij n1 n2 => ?_⟩
    · by_cases e : i + 1 = l.length
      · have f := F 0 i (by omega) hi
        rw [fits_get (by omega) hi, if_neg (by omega), if_pos ⟨rfl, e⟩] at f
        have en : Ar.nx l.length i = 0 := by unfold Ar.nx; rw [if_pos e]
        rw [en] at f ⊢
        simpa using f
      · have f := F i (i + 1) (by omega) (by omega)
        have en : Ar.nx l.length i = i + 1 := by unfold Ar.nx; rw [if_neg e]
        rw [fits_get hi (by omega), if_pos rfl] at f
        rw [en] at f ⊢
        simpa using f
    · rcases Nat.lt_or_gt_of_ne hij with z | z
      · have f := F i j z hj
        rw [fits_get hi hj, if_neg (fun q => n1 (by unfold Ar.nx; rw [if_neg (by omega)]; exact q.symm)), if_neg (fun q => n2 (by unfold Ar.nx; rw [if_pos q.2]; exact q.1.symm))] at f
        simpa using f
      · have f := F j i z hi
        rw [fits_get hj hi, if_neg (fun q => n2 (by unfold Ar.nx; rw [if_neg (by omega)]; exact q.symm)), if_neg (fun q => n1 (by unfold Ar.nx; rw [if_pos q.2]; exact q.1.symm))] at f
        rw [meet_comm]
        simpa using f
  · rintro S
    refine ⟨S.n3, S.nd, fun i hi j hj => ?_⟩
    by_cases hij : i < j
    · right
      rw [fits_get hi hj]
      by_cases e : j = i + 1
      · rw [if_pos e]
        have en : Ar.nx l.length i = j := by unfold Ar.nx; rw [if_neg (by omega)]; exact e.symm
        have := S.back i hi
        rw [en] at this ⊢
        rw [this]; rfl
      · rw [if_neg e]
        by_cases e2 : i = 0 ∧ j + 1 = l.length
        · rw [if_pos e2]
          have en : Ar.nx l.length j = i := by unfold Ar.nx; rw [if_pos e2.2]; exact e2.1.symm
          have := S.back j hj
          rw [en] at this ⊢
          rw [this]; rfl
        · rw [if_neg e2, S.apart i j hi hj (by omega) (fun q => by unfold Ar.nx at q; split at q <;> omega) (fun q => by unfold Ar.nx at q; split at q <;> omega)]; rfl
    · left; exact hij
theorem mul_cancel_sign {D s t : Int} (hD : 0 < D) (h : 0 ≤ D * s) : 0 ≤ s := by
  apply Classical.byContradiction
  intro z
  have := imul_neg (a := D) (b := s) (by omega)
  omega
/-- on the line, and strictly between by the sheared number: on the way -/
theorem on_of {a b p : Pt} (ht : turn a b p = 0) (h : (1000000 * a.x + a.y < 1000000 * p.x + p.y ∧ 1000000 * p.x + p.y < 1000000 * b.x + b.y)) :
    ((a.x ≤ p.x ∧ p.x ≤ b.x) ∨ (b.x ≤ p.x ∧ p.x ≤ a.x)) ∧ ((a.y ≤ p.y ∧ p.y ≤ b.y) ∨ (b.y ≤ p.y ∧ p.y ≤ a.y)) := by
  have hU : 0 < (1000000 * (b.x - a.x) + (b.y - a.y)) := by omega
  have hW : 0 < (1000000 * (p.x - a.x) + (p.y - a.y)) := by omega
  have hV : 0 < (1000000 * (b.x - p.x) + (b.y - p.y)) := by omega
  have c : (b.x - a.x) * (p.y - a.y) = (b.y - a.y) * (p.x - a.x) := by unfold turn at ht; omega
  have ex : (1000000 * (b.x - a.x) + (b.y - a.y)) * (p.x - a.x) = (1000000 * (p.x - a.x) + (p.y - a.y)) * (b.x - a.x) := by grind
  have ey : (1000000 * (b.x - a.x) + (b.y - a.y)) * (p.y - a.y) = (1000000 * (p.x - a.x) + (p.y - a.y)) * (b.y - a.y) := by grind
  have ex2 : (1000000 * (b.x - a.x) + (b.y - a.y)) * (b.x - p.x) = (1000000 * (b.x - p.x) + (b.y - p.y)) * (b.x - a.x) := by grind
  have ey2 : (1000000 * (b.x - a.x) + (b.y - a.y)) * (b.y - p.y) = (1000000 * (b.x - p.x) + (b.y - p.y)) * (b.y - a.y) := by grind
  constructor
  · by_cases s : 0 ≤ b.x - a.x
    · have h1 := mul_cancel_sign (s := p.x - a.x) (t := 0) hU (by rw [ex]; exact imul_nonneg (by omega))
      have h2 := mul_cancel_sign (s := b.x - p.x) (t := 0) hU (by rw [ex2]; exact imul_nonneg (by omega))
      omega
    · have h1 := mul_cancel_sign (s := -(p.x - a.x)) (t := 0) hU (by
        have := imul_nonpos (a := (1000000 * (p.x - a.x) + (p.y - a.y))) (b := b.x - a.x) (by omega)
        grind)
      have h2 := mul_cancel_sign (s := -(b.x - p.x)) (t := 0) hU (by
        have := imul_nonpos (a := (1000000 * (b.x - p.x) + (b.y - p.y))) (b := b.x - a.x) (by omega)
        grind)
      omega
  · by_cases s : 0 ≤ b.y - a.y
    · have h1 := mul_cancel_sign (s := p.y - a.y) (t := 0) hU (by rw [ey]; exact imul_nonneg (by omega))
      have h2 := mul_cancel_sign (s := b.y - p.y) (t := 0) hU (by rw [ey2]; exact imul_nonneg (by omega))
      omega
    · have h1 := mul_cancel_sign (s := -(p.y - a.y)) (t := 0) hU (by
        have := imul_nonpos (a := (1000000 * (p.x - a.x) + (p.y - a.y))) (b := b.y - a.y) (by omega)
        grind)
      have h2 := mul_cancel_sign (s := -(b.y - p.y)) (t := 0) hU (by
        have := imul_nonpos (a := (1000000 * (b.x - p.x) + (b.y - p.y))) (b := b.y - a.y) (by omega)
        grind)
      omega
theorem turn_swap (a b p : Pt) : turn b a p = - turn a b p := by unfold turn; grind
theorem on_of2 {a b p : Pt} (ht : turn a b p = 0) (h : (1000000 * a.x + a.y < 1000000 * p.x + p.y ∧ 1000000 * p.x + p.y < 1000000 * b.x + b.y) ∨ (1000000 * b.x + b.y < 1000000 * p.x + p.y ∧ 1000000 * p.x + p.y < 1000000 * a.x + a.y)) :
    onSide p a b = true := by
  rw [onSide_iff]
  rcases h with h | h
  · exact ⟨ht, on_of ht h⟩
  · have := on_of (a := b) (b := a) (p := p) (by rw [turn_swap, ht]; rfl) h
    exact ⟨ht, by omega, by omega⟩
theorem meet_false {a b c d : Pt} (h : meet a b c d = false) : onSide c a b = false ∧ onSide d a b = false ∧
    ¬ (((0 < turn a b c ∧ turn a b d < 0) ∨ (turn a b c < 0 ∧ 0 < turn a b d)) ∧ ((0 < turn c d a ∧ turn c d b < 0) ∨ (turn c d a < 0 ∧ 0 < turn c d b))) := by
  unfold meet at h
  simp only [Bool.or_eq_false_iff] at h
  refine ⟨h.2.1, h.2.2.1, fun z => ?_⟩
  have h1 := h.1
  have : ((decide (0 < turn a b c) && decide (turn a b d < 0) || decide (turn a b c < 0) && decide (0 < turn a b d)) && (decide (0 < turn c d a) && decide (turn c d b < 0) || decide (turn c d a < 0) && decide (0 < turn c d b))) = true := by
    simp only [Bool.and_eq_true, Bool.or_eq_true, decide_eq_true_eq]; exact z
  rw [h1] at this; exact absurd this (by decide)
theorem back_between {a b c : Pt} (nb : goesBack a b c = false) (hbc : b ≠ c) (ha : onSide a b c = true) (hab : a ≠ b) : False := by
  have e := corner_eq hab hbc
  rw [nb] at e
  unfold corner at e
  rw [ha] at e
  simp at e
theorem back_between2 {a b c : Pt} (nb : goesBack a b c = false) (hbc : b ≠ c) (ha : onSide c a b = true) (hab : a ≠ b) : False := by
  have e := corner_eq hab hbc
  rw [nb] at e
  unfold corner at e
  rw [ha] at e
  simp at e
theorem toRg {l : List Pt} (hb : ∀ p ∈ l, inB p) (S : Simp l) : Ar.Rg l.length (XX l) (YY l) (SL l) := by
  have n3 := S.n3
  have XI := fun i j hi hj e => XX_inj hb S.nd (i := i) (j := j) hi hj e
  have Xne : ∀ e, e < l.length → XX l (Ar.nx l.length e) ≠ XX l e := fun e he z => Ar.nx_ne n3 he (XI _ _ (Ar.nx_lt he) he z)
  have Pne : ∀ i j, i < l.length → j < l.length → i ≠ j → at_ l i ≠ at_ l j := fun i j hi hj n e => n (nodup_at S.nd hi hj e)
  have Dne : ∀ e, e < l.length → ((XX l (Ar.nx l.length e) - XX l e : Int) : Rat) ≠ 0 := fun e he z => by
    have z2 : XX l (Ar.nx l.length e) - XX l e = 0 := Rat.intCast_eq_zero_iff.mp z
    exact Xne e he (by omega)
  refine ⟨n3, XI, fun i hi => ?_, fun e k he hk h1 h2 hs hy => ?_, fun e f he hf hef => ?_⟩
  · have : (XX l (Ar.nx l.length i) : Rat) - (XX l i : Rat) = ((XX l (Ar.nx l.length i) - XX l i : Int) : Rat) := by grind
    rw [this]; unfold SL; exact Rat.div_mul_cancel (Dne i hi)
  · have st := side_turn (l := l) (e := e) (k := k) (Xne e he)
    have z : YY l k - Ar.gg (XX l) (YY l) (SL l) e (XX l k) = 0 := by rw [hy]; grind
    rw [z] at st
    have t0 : turn (at_ l e) (at_ l (Ar.nx l.length e)) (at_ l k) = 0 := by
      have : ((turn (at_ l e) (at_ l (Ar.nx l.length e)) (at_ l k) : Int) : Rat) = 0 := by grind
      exact Rat.intCast_eq_zero_iff.mp this
    have on := on_of2 t0 (by unfold XX at hs; exact hs)
    by_cases q : Ar.nx l.length k = e
    · have b := S.back k hk
      rw [q] at b
      exact back_between b (Pne _ _ he (Ar.nx_lt he) (Ne.symm (Ar.nx_ne n3 he))) on (Pne _ _ hk he h1)
    · have m := S.apart e k he hk (Ne.symm h1) (Ne.symm h2) q
      have := (meet_false m).1
      rw [on] at this; exact absurd this (by decide)
  · rintro ⟨p1, p2⟩
    have s1 := side_turn (l := l) (e := e) (k := f) (Xne e he)
    have s2 := side_turn (l := l) (e := e) (k := Ar.nx l.length f) (Xne e he)
    have s3 := side_turn (l := l) (e := f) (k := e) (Xne f hf)
    have s4 := side_turn (l := l) (e := f) (k := Ar.nx l.length e) (Xne f hf)
    have q1 := prod_neg (Dne e he) s1 s2 p1
    have q2 := prod_neg (Dne f hf) s3 s4 p2
    by_cases a1 : Ar.nx l.length e = f
    · have : turn (at_ l e) (at_ l (Ar.nx l.length e)) (at_ l f) = 0 := by rw [a1]; unfold turn; grind
      omega
    · by_cases a2 : Ar.nx l.length f = e
      · have : turn (at_ l e) (at_ l (Ar.nx l.length e)) (at_ l (Ar.nx l.length f)) = 0 := by rw [a2]; unfold turn; grind
        omega
      · have m := S.apart e f he hf hef a1 a2
        exact (meet_false m).2.2 ⟨q1, q2⟩
/-! the area, place by place -/
theorem sum_range (g : Nat → Int) : ∀ n : Nat, ((((List.range n).map g).foldr (fun (a b : Int) => a + b) 0 : Int) : Rat) = Ar.sm n fun i => (g i : Rat)
  | 0 => rfl
  | n + 1 => by
    have app : ∀ (l : List Int) (z : Int), l.foldr (fun (a b : Int) => a + b) z = l.foldr (fun (a b : Int) => a + b) 0 + z := fun l => by
      induction l with
      | nil => intro z; simp
      | cons a l ih => intro z; show a + l.foldr _ z = a + l.foldr _ 0 + z; rw [ih z]; omega
    rw [List.range_succ, List.map_append, List.foldr_append, app]
    show (((_ : Int) + (g n + 0) : Int) : Rat) = Ar.sm n _ + (g n : Rat)
    rw [← sum_range g n]
    grind
theorem area2_sm (l : List Pt) : ((area2 l : Int) : Rat) = Ar.sm l.length fun i => (((at_ l i).x * (at_ l (Ar.nx l.length i)).y - (at_ l (Ar.nx l.length i)).x * (at_ l i).y : Int) : Rat) := by
  rw [← sum_range]
  unfold area2
  congr 2
  refine List.ext_getElem? fun i => ?_
  rw [List.getElem?_map, List.getElem?_map]
  by_cases h : i < l.length
  · rw [sides_get h, List.getElem?_range h]; rfl
  · rw [List.getElem?_eq_none (by rw [sides_len]; omega), List.getElem?_eq_none (by simp; omega)]; rfl
theorem area2_ne {l : List Pt} (hb : ∀ p ∈ l, inB p) (S : Simp l) : area2 l ≠ 0 := by
  intro z
  have R := toRg hb S
  have A := Ar.area_ne R (N := 1000000000000) (fun i hi => by
    have := at_inB hb hi
    unfold inB at this
    unfold XX
    omega)
  refine A ?_
  have e := area2_sm l
  rw [z] at e
  have t := Ar.sm_tele (n := l.length) (F := fun k => (1000000 * (at_ l k).x * (at_ l k).y + (at_ l k).y * (at_ l k).y : Rat))
  rw [Ar.sm_congr (g := fun i => (-1000000) * (((at_ l i).x * (at_ l (Ar.nx l.length i)).y - (at_ l (Ar.nx l.length i)).x * (at_ l i).y : Int) : Rat) +
    ((fun k => (1000000 * (at_ l k).x * (at_ l k).y + (at_ l k).y * (at_ l k).y : Rat)) (Ar.nx l.length i) - (fun k => (1000000 * (at_ l k).x * (at_ l k).y + (at_ l k).y * (at_ l k).y : Rat)) i)), Ar.sm_add, t, Ar.sm_mul, ← e]
  · grind
  · intro i hi
    unfold XX YY
    grind
/-- **The program's look is the specification's.** -/
theorem simple_eq {l : List Pt} (hb : ∀ p ∈ l, inB p) : isSimple l = simple l := by
  rw [Bool.eq_iff_iff, isSimple_iff]
  unfold simple
  simp only [Bool.and_eq_true, decide_eq_true_eq, bne_iff_ne, ne_eq, List.all_eq_true, List.mem_range]
  constructor
  · intro S
    refine ⟨S.n3, S.nd, area2_ne hb S, fun i hi j hj => ?_⟩
    have Pne : ∀ i j, i < l.length → j < l.length → i ≠ j → at_ l i ≠ at_ l j := fun i j hi hj n e => n (nodup_at S.nd hi hj e)
    have n3 := S.n3
    have nxm : ∀ k, k < l.length → (k + 1) % l.length = Ar.nx l.length k := fun k hk => by
      unfold Ar.nx; split
      · rename_i h; rw [h]; exact Nat.mod_self _
      · exact Nat.mod_eq_of_lt (by omega)
    rw [sides_get hi, sides_get hj, nxm i hi, nxm j hj]
    by_cases e : i = j
    · simp [e]
    · simp only [e, if_false]
      by_cases a1 : Ar.nx l.length i = j
      · rw [if_pos a1, corner_eq (Pne _ _ hi (Ar.nx_lt hi) (Ne.symm (Ar.nx_ne n3 hi))) (by rw [a1]; exact Pne _ _ hj (Ar.nx_lt hj) (Ne.symm (Ar.nx_ne n3 hj)))]
        have := S.back i hi
        rw [a1] at this ⊢
        rw [this]; rfl
      · rw [if_neg a1]
        by_cases a2 : Ar.nx l.length j = i
        · rw [if_pos a2, corner_eq (Pne _ _ hj (Ar.nx_lt hj) (Ne.symm (Ar.nx_ne n3 hj))) (by rw [a2]; exact Pne _ _ hi (Ar.nx_lt hi) (Ne.symm (Ar.nx_ne n3 hi)))]
          have := S.back j hj
          rw [a2] at this ⊢
          rw [this]; rfl
        · rw [if_neg a2, S.apart i j hi hj e a1 a2]; rfl
  · rintro ⟨n3, nd, _, h⟩
    have Pne : ∀ i j, i < l.length → j < l.length → i ≠ j → at_ l i ≠ at_ l j := fun i j hi hj n e => n (nodup_at nd hi hj e)
    have nxm : ∀ k, k < l.length → (k + 1) % l.length = Ar.nx l.length k := fun k hk => by
      unfold Ar.nx; split
      · rename_i h; rw [h]; exact Nat.mod_self _
      · exact Nat.mod_eq_of_lt (by omega)
    refine ⟨n3, nd, fun i hi => ?_, fun i j hi hj hij a1 a2 => ?_⟩
    · have q := h i hi (Ar.nx l.length i) (Ar.nx_lt hi)
      rw [sides_get hi, sides_get (Ar.nx_lt hi), nxm i hi] at q
      simp only [if_neg (Ne.symm (Ar.nx_ne n3 hi)), if_true] at q
      rw [corner_eq (Pne _ _ hi (Ar.nx_lt hi) (Ne.symm (Ar.nx_ne n3 hi))) (Pne _ _ (Ar.nx_lt hi) (Ar.nx_lt (Ar.nx_lt hi)) (Ne.symm (Ar.nx_ne n3 (Ar.nx_lt hi))))] at q
      simpa using q
    · have q := h i hi j hj
      rw [sides_get hi, sides_get hj, nxm i hi, nxm j hj] at q
      simp only [if_neg hij, if_neg a1, if_neg a2] at q
      simpa using q
end Ge
end
/-! ### GBox -/
section
set_option linter.all false
namespace Ge
open LsGeo
/-! A way and an upright box: by its four corners' turns, and by its sides. -/
def tf (px py qx qy cx cy : Int) : Int := (qx - px) * (cy - py) - (qy - py) * (cx - px)
/-- c lies from a to b or from b to a -/
def bt (a c b : Int) : Prop := (a ≤ c ∧ c ≤ b) ∨ (b ≤ c ∧ c ≤ a)
def op (a b : Int) : Prop := (0 < a ∧ b < 0) ∨ (a < 0 ∧ 0 < b)
def inn (px py w s e n : Int) : Prop := w ≤ px ∧ px ≤ e ∧ s ≤ py ∧ py ≤ n
def Wt (px py qx qy w s e n : Int) : Prop := (w ≤ px ∨ w ≤ qx) ∧ (px ≤ e ∨ qx ≤ e) ∧ (s ≤ py ∨ s ≤ qy) ∧ (py ≤ n ∨ qy ≤ n) ∧
  (tf px py qx qy w s ≤ 0 ∨ tf px py qx qy e s ≤ 0 ∨ tf px py qx qy w n ≤ 0 ∨ tf px py qx qy e n ≤ 0) ∧
  (0 ≤ tf px py qx qy w s ∨ 0 ≤ tf px py qx qy e s ∨ 0 ≤ tf px py qx qy w n ∨ 0 ≤ tf px py qx qy e n)
/-- a corner is on the way -/
def cor (px py qx qy cx cy : Int) : Prop := tf px py qx qy cx cy = 0 ∧ bt px cx qx ∧ bt py cy qy
/-- a level side from x1 to x2 at y; an upright one -/
def hs (px py qx qy x1 x2 y : Int) : Prop := cor px py qx qy x1 y ∨ cor px py qx qy x2 y ∨ (op (tf px py qx qy x1 y) (tf px py qx qy x2 y) ∧ op (py - y) (qy - y))
def vs (px py qx qy x y1 y2 : Int) : Prop := cor px py qx qy x y1 ∨ cor px py qx qy x y2 ∨ (op (tf px py qx qy x y1) (tf px py qx qy x y2) ∧ op (px - x) (qx - x))
def Hit (px py qx qy w s e n : Int) : Prop := inn px py w s e n ∨ inn qx qy w s e n ∨ hs px py qx qy w e s ∨ hs px py qx qy w e n ∨ vs px py qx qy w s n ∨ vs px py qx qy e s n
theorem tf_mx (px py qx qy cx cy : Int) : tf (-px) py (-qx) qy (-cx) cy = - tf px py qx qy cx cy := by unfold tf; grind
theorem tf_my (px py qx qy cx cy : Int) : tf px (-py) qx (-qy) cx (-cy) = - tf px py qx qy cx cy := by unfold tf; grind
theorem tf_t (px py qx qy cx cy : Int) : tf py px qy qx cy cx = - tf px py qx qy cx cy := by unfold tf; grind
theorem cor_mx {px py qx qy cx cy : Int} (h : cor (-px) py (-qx) qy (-cx) cy) : cor px py qx qy cx cy := by
  unfold cor bt at h ⊢
  rw [tf_mx] at h
  omega
theorem cor_my {px py qx qy cx cy : Int} (h : cor px (-py) qx (-qy) cx (-cy)) : cor px py qx qy cx cy := by
  unfold cor bt at h ⊢
  rw [tf_my] at h
  omega
theorem hs_mx {px py qx qy w e y : Int} (h : hs (-px) py (-qx) qy (-e) (-w) y) : hs px py qx qy w e y := by
  rcases h with h | h | ⟨h, k⟩
  · exact .inr (.inl (cor_mx h))
  · exact .inl (cor_mx h)
  · refine .inr (.inr ⟨?_, k⟩)
    rw [tf_mx, tf_mx] at h
    unfold op at h ⊢; omega
theorem vs_mx {px py qx qy x s n : Int} (h : vs (-px) py (-qx) qy (-x) s n) : vs px py qx qy x s n := by
  rcases h with h | h | ⟨h, k⟩
  · exact .inl (cor_mx h)
  · exact .inr (.inl (cor_mx h))
  · refine .inr (.inr ⟨?_, ?_⟩)
    · rw [tf_mx, tf_mx] at h
      unfold op at h ⊢; omega
    · unfold op at k ⊢; omega
theorem hs_my {px py qx qy w e y : Int} (h : hs px (-py) qx (-qy) w e (-y)) : hs px py qx qy w e y := by
  rcases h with h | h | ⟨h, k⟩
  · exact .inl (cor_my h)
  · exact .inr (.inl (cor_my h))
  · refine .inr (.inr ⟨?_, ?_⟩)
    · rw [tf_my, tf_my] at h
      unfold op at h ⊢; omega
    · unfold op at k ⊢; omega
theorem vs_my {px py qx qy x s n : Int} (h : vs px (-py) qx (-qy) x (-n) (-s)) : vs px py qx qy x s n := by
  rcases h with h | h | ⟨h, k⟩
  · exact .inr (.inl (cor_my h))
  · exact .inl (cor_my h)
  · refine .inr (.inr ⟨?_, k⟩)
    rw [tf_my, tf_my] at h
    unfold op at h ⊢; omega
theorem hit_mx {px py qx qy w s e n : Int} (h : Hit (-px) py (-qx) qy (-e) s (-w) n) : Hit px py qx qy w s e n := by
  rcases h with h | h | h | h | h | h
  · left; unfold inn at h ⊢; omega
  · right; left; unfold inn at h ⊢; omega
  · exact .inr (.inr (.inl (hs_mx h)))
  · exact .inr (.inr (.inr (.inl (hs_mx h))))
  · exact .inr (.inr (.inr (.inr (.inr (vs_mx h)))))
  · exact .inr (.inr (.inr (.inr (.inl (vs_mx h)))))
theorem hit_my {px py qx qy w s e n : Int} (h : Hit px (-py) qx (-qy) w (-n) e (-s)) : Hit px py qx qy w s e n := by
  rcases h with h | h | h | h | h | h
  · left; unfold inn at h ⊢; omega
  · right; left; unfold inn at h ⊢; omega
  · exact .inr (.inr (.inr (.inl (hs_my h))))
  · exact .inr (.inr (.inl (hs_my h)))
  · exact .inr (.inr (.inr (.inr (.inl (vs_my h)))))
  · exact .inr (.inr (.inr (.inr (.inr (vs_my h)))))
theorem wt_mx {px py qx qy w s e n : Int} (h : Wt px py qx qy w s e n) : Wt (-px) py (-qx) qy (-e) s (-w) n := by
  unfold Wt at h ⊢
  simp only [tf_mx]
  omega
theorem wt_my {px py qx qy w s e n : Int} (h : Wt px py qx qy w s e n) : Wt px (-py) qx (-qy) w (-n) e (-s) := by
  unfold Wt at h ⊢
  simp only [tf_my]
  omega
/-- it comes in through the south side -/
theorem south {px py qx qy w s e n : Int} (hw : w < e) (hs' : s < n) (hx : px ≤ qx) (hy : py ≤ qy) (h1 : px ≤ e) (h2 : w ≤ qx) (h3 : py ≤ n) (h4 : s ≤ qy)
    (f1 : 0 ≤ tf px py qx qy w s) (f2 : tf px py qx qy e s ≤ 0) (ho : ¬ inn px py w s e n) : inn qx qy w s e n ∨ hs px py qx qy w e s := by
  have hpy : py ≤ s := by
    apply Classical.byContradiction
    intro c
    have pw : px < w := by unfold inn at ho; omega
    have a1 := imul_neg (a := qx - px) (b := s - py) (by omega)
    have a2 := imul_nonneg (a := qy - py) (b := w - px) (by omega)
    unfold tf at f1
    omega
  by_cases z1 : tf px py qx qy w s = 0
  · right; left
    refine ⟨z1, ?_, by unfold bt; omega⟩
    unfold bt
    apply Classical.byContradiction
    intro c
    have wp : w < px := by omega
    unfold tf at z1
    have a1 := imul_nonneg (a := qx - px) (b := s - py) (by omega)
    have a2 := imul_nonpos (a := qy - py) (b := w - px) (by omega)
    have a3 : (qy - py) * (w - px) = 0 := by omega
    rcases Int.mul_eq_zero.mp a3 with q | q
    · unfold inn at ho; omega
    · omega
  · by_cases z2 : tf px py qx qy e s = 0
    · by_cases q : e ≤ qx
      · right; right; left
        exact ⟨z2, by unfold bt; omega, by unfold bt; omega⟩
      · by_cases q2 : qy = py
        · left
          unfold inn; omega
        · exfalso
          unfold tf at z2
          have b1 : (qx - px) * (s - py) ≤ (qx - px) * (qy - py) := Int.mul_le_mul_of_nonneg_left (by omega) (by omega)
          have b2 : (qx - px) * (qy - py) < (e - px) * (qy - py) := Int.mul_lt_mul_of_pos_right (by omega) (by omega)
          have b3 : (e - px) * (qy - py) = (qy - py) * (e - px) := Int.mul_comm _ _
          omega
    · by_cases q1 : py = s
      · exfalso
        have e1 : tf px py qx qy w s = -((qy - py) * (w - px)) := by unfold tf; rw [q1]; grind
        have : ¬ (0 ≤ w - px) := fun c => by
          have := imul_nonneg (a := qy - py) (b := w - px) (by omega)
          omega
        unfold inn at ho; omega
      · by_cases q2 : qy = s
        · left
          have e1 : tf px py qx qy w s = -((qy - py) * (w - qx)) := by unfold tf; rw [q2]; grind
          have e2 : tf px py qx qy e s = -((qy - py) * (e - qx)) := by unfold tf; rw [q2]; grind
          have c1 : ¬ (0 ≤ w - qx) := fun c => by
            have := imul_nonneg (a := qy - py) (b := w - qx) (by omega)
            omega
          have c2 : ¬ (e - qx ≤ 0) := fun c => by
            have := imul_nonpos (a := qy - py) (b := e - qx) (by omega)
            omega
          unfold inn; omega
        · right; right; right
          unfold op
          omega
/-- a corner at which a flat function is least: below any place of the box -/
theorem lin_le {a b cx cy w s e n : Int} (h : inn cx cy w s e n) : a * w + b * s ≤ a * cx + b * cy ∨ a * e + b * s ≤ a * cx + b * cy ∨ a * w + b * n ≤ a * cx + b * cy ∨ a * e + b * n ≤ a * cx + b * cy := by
  unfold inn at h
  by_cases ha : 0 ≤ a
  · have i1 : a * w ≤ a * cx := Int.mul_le_mul_of_nonneg_left h.1 ha
    by_cases hb : 0 ≤ b
    · have i2 : b * s ≤ b * cy := Int.mul_le_mul_of_nonneg_left h.2.2.1 hb
      omega
    · have i2 : b * n ≤ b * cy := Int.mul_le_mul_of_nonpos_left (by omega) h.2.2.2
      omega
  · have i1 : a * e ≤ a * cx := Int.mul_le_mul_of_nonpos_left (by omega) h.2.1
    by_cases hb : 0 ≤ b
    · have i2 : b * s ≤ b * cy := Int.mul_le_mul_of_nonneg_left h.2.2.1 hb
      omega
    · have i2 : b * n ≤ b * cy := Int.mul_le_mul_of_nonpos_left (by omega) h.2.2.2
      omega
theorem tf_lin (px py qx qy cx cy : Int) : tf px py qx qy cx cy = (-(qy - py)) * cx + (qx - px) * cy + ((qy - py) * px - (qx - px) * py) := by unfold tf; grind
theorem tf_le {px py qx qy cx cy w s e n : Int} (h : inn cx cy w s e n) (k : tf px py qx qy cx cy ≤ 0) :
    tf px py qx qy w s ≤ 0 ∨ tf px py qx qy e s ≤ 0 ∨ tf px py qx qy w n ≤ 0 ∨ tf px py qx qy e n ≤ 0 := by
  have := lin_le (a := -(qy - py)) (b := qx - px) h
  simp only [tf_lin] at k ⊢
  omega
theorem tf_ge {px py qx qy cx cy w s e n : Int} (h : inn cx cy w s e n) (k : 0 ≤ tf px py qx qy cx cy) :
    0 ≤ tf px py qx qy w s ∨ 0 ≤ tf px py qx qy e s ∨ 0 ≤ tf px py qx qy w n ∨ 0 ≤ tf px py qx qy e n := by
  have := tf_le (px := qx) (py := qy) (qx := px) (qy := py) h (by
    have : tf qx qy px py cx cy = - tf px py qx qy cx cy := by unfold tf; grind
    omega)
  have e1 := fun cx cy => (show tf qx qy px py cx cy = - tf px py qx qy cx cy by unfold tf; grind)
  simp only [e1] at this
  omega
/-- from south-west to north-east the north-west corner is the leftmost one, the south-east one the rightmost -/
theorem both_up {px py qx qy w s e n : Int} (hw : w < e) (hs' : s < n) (hx : px ≤ qx) (hy : py ≤ qy) (h : Wt px py qx qy w s e n) : Hit px py qx qy w s e n := by
  unfold Wt at h
  obtain ⟨h2, h1, h4, h3, k1, k2⟩ := h
  have m1 : (qy - py) * w ≤ (qy - py) * e := Int.mul_le_mul_of_nonneg_left (by omega) (by omega)
  have m2 : (qx - px) * s ≤ (qx - px) * n := Int.mul_le_mul_of_nonneg_left (by omega) (by omega)
  have l := tf_lin px py qx qy
  have n1 : ∀ c : Int, (-(qy - py)) * c = -((qy - py) * c) := fun c => by grind
  have fse : tf px py qx qy e s ≤ 0 := by
    have a1 := l e s; have a2 := l w s; have a3 := l w n; have a4 := l e n
    simp only [n1] at a1 a2 a3 a4
    omega
  have fnw : 0 ≤ tf px py qx qy w n := by
    have a1 := l e s; have a2 := l w s; have a3 := l w n; have a4 := l e n
    simp only [n1] at a1 a2 a3 a4
    omega
  by_cases ho : inn px py w s e n
  · exact .inl ho
  · by_cases f1 : 0 ≤ tf px py qx qy w s
    · rcases south hw hs' hx hy (by omega) (by omega) (by omega) (by omega) f1 fse ho with r | r
      · exact .inr (.inl r)
      · exact .inr (.inr (.inl r))
    · have t1 : tf py px qy qx s w = - tf px py qx qy w s := tf_t _ _ _ _ _ _
      have t2 : tf py px qy qx n w = - tf px py qx qy w n := tf_t _ _ _ _ _ _
      rcases south (px := py) (py := px) (qx := qy) (qy := qx) (w := s) (s := w) (e := n) (n := e) hs' hw hy hx (by omega) (by omega) (by omega) (by omega) (by omega) (by omega) (by unfold inn at ho ⊢; omega) with r | r
      · refine .inr (.inl ?_)
        unfold inn at r ⊢; omega
      · refine .inr (.inr (.inr (.inr (.inl ?_))))
        rcases r with ⟨r1, r2, r3⟩ | ⟨r1, r2, r3⟩ | ⟨r1, r2⟩
        · exact .inl ⟨by omega, r3, r2⟩
        · exact .inr (.inl ⟨by omega, r3, r2⟩)
        · refine .inr (.inr ⟨?_, r2⟩)
          rw [t1, t2] at r1
          unfold op at r1 ⊢; omega
theorem hit_of {px py qx qy w s e n : Int} (hw : w < e) (hs' : s < n) (h : Wt px py qx qy w s e n) : Hit px py qx qy w s e n := by
  by_cases hx : px ≤ qx
  · by_cases hy : py ≤ qy
    · exact both_up hw hs' hx hy h
    · exact hit_my (both_up hw (by omega) hx (by omega) (wt_my h))
  · by_cases hy : py ≤ qy
    · exact hit_mx (both_up (by omega) hs' (by omega) hy (wt_mx h))
    · exact hit_mx (hit_my (both_up (by omega) (by omega) (by omega) (by omega) (wt_my (wt_mx h))))
theorem wt_in {px py qx qy w s e n : Int} (h : inn px py w s e n) : Wt px py qx qy w s e n := by
  have z : tf px py qx qy px py = 0 := by unfold tf; grind
  have a := tf_le (px := px) (py := py) (qx := qx) (qy := qy) h (by omega)
  have b := tf_ge (px := px) (py := py) (qx := qx) (qy := qy) h (by omega)
  unfold inn at h
  exact ⟨by omega, by omega, by omega, by omega, a, b⟩
theorem wt_in2 {px py qx qy w s e n : Int} (h : inn qx qy w s e n) : Wt px py qx qy w s e n := by
  have z : tf px py qx qy qx qy = 0 := by unfold tf; grind
  have a := tf_le (px := px) (py := py) (qx := qx) (qy := qy) h (by omega)
  have b := tf_ge (px := px) (py := py) (qx := qx) (qy := qy) h (by omega)
  unfold inn at h
  exact ⟨by omega, by omega, by omega, by omega, a, b⟩
theorem wt_cor {px py qx qy w s e n cx cy : Int} (hi : inn cx cy w s e n) (h : cor px py qx qy cx cy) : Wt px py qx qy w s e n := by
  unfold cor bt at h
  have a := tf_le (px := px) (py := py) (qx := qx) (qy := qy) hi (by omega)
  have b := tf_ge (px := px) (py := py) (qx := qx) (qy := qy) hi (by omega)
  unfold inn at hi
  exact ⟨by omega, by omega, by omega, by omega, a, b⟩
theorem core {A B C D : Int} (h1 : 0 < B) (h2 : B < A) (h3 : D < C) (h4 : 0 < C) : D * B < A * C := by
  have a1 : C * B < C * A := Int.mul_lt_mul_of_pos_left h2 h4
  have a2 : D * B < C * B := Int.mul_lt_mul_of_pos_right h3 h1
  have a3 : C * A = A * C := Int.mul_comm _ _
  omega
/-- a place above both ends of a way, between them: on its left if it goes east -/
theorem above_e {px py qx qy cx cy : Int} (h1 : px < cx) (h2 : cx < qx) (h3 : py < cy) (h4 : qy < cy) : 0 < tf px py qx qy cx cy := by
  have := core (A := qx - px) (B := cx - px) (C := cy - py) (D := qy - py) (by omega) (by omega) (by omega) (by omega)
  unfold tf; omega
theorem above_w {px py qx qy cx cy : Int} (h1 : qx < cx) (h2 : cx < px) (h3 : py < cy) (h4 : qy < cy) : tf px py qx qy cx cy < 0 := by
  have := above_e (px := -px) (py := py) (qx := -qx) (qy := qy) (cx := -cx) (cy := cy) (by omega) (by omega) h3 h4
  rw [tf_mx] at this; omega
theorem below_e {px py qx qy cx cy : Int} (h1 : px < cx) (h2 : cx < qx) (h3 : cy < py) (h4 : cy < qy) : tf px py qx qy cx cy < 0 := by
  have := above_e (px := px) (py := -py) (qx := qx) (qy := -qy) (cx := cx) (cy := -cy) (by omega) (by omega) (by omega) (by omega)
  rw [tf_my] at this; omega
theorem below_w {px py qx qy cx cy : Int} (h1 : qx < cx) (h2 : cx < px) (h3 : cy < py) (h4 : cy < qy) : 0 < tf px py qx qy cx cy := by
  have := above_w (px := px) (py := -py) (qx := qx) (qy := -qy) (cx := cx) (cy := -cy) (by omega) (by omega) (by omega) (by omega)
  rw [tf_my] at this; omega
/-- a way that parts two places that stand upright one over another has one of them not above it and one not below it -/
theorem part_v {px py qx qy x y1 y2 : Int} (h : op (tf px py qx qy x y1) (tf px py qx qy x y2)) (hx : op (px - x) (qx - x)) : 
    ¬ (py < y1 ∧ qy < y1 ∧ py < y2 ∧ qy < y2) ∧ ¬ (y1 < py ∧ y1 < qy ∧ y2 < py ∧ y2 < qy) := by
  unfold op at h hx
  refine ⟨fun c => ?_, fun c => ?_⟩
  · by_cases d : px < x
    · have a1 := above_e (px := px) (py := py) (qx := qx) (qy := qy) (cx := x) (cy := y1) d (by omega) (by omega) (by omega)
      have a2 := above_e (px := px) (py := py) (qx := qx) (qy := qy) (cx := x) (cy := y2) d (by omega) (by omega) (by omega)
      omega
    · have a1 := above_w (px := px) (py := py) (qx := qx) (qy := qy) (cx := x) (cy := y1) (by omega) (by omega) (by omega) (by omega)
      have a2 := above_w (px := px) (py := py) (qx := qx) (qy := qy) (cx := x) (cy := y2) (by omega) (by omega) (by omega) (by omega)
      omega
  · by_cases d : px < x
    · have a1 := below_e (px := px) (py := py) (qx := qx) (qy := qy) (cx := x) (cy := y1) d (by omega) (by omega) (by omega)
      have a2 := below_e (px := px) (py := py) (qx := qx) (qy := qy) (cx := x) (cy := y2) d (by omega) (by omega) (by omega)
      omega
    · have a1 := below_w (px := px) (py := py) (qx := qx) (qy := qy) (cx := x) (cy := y1) (by omega) (by omega) (by omega) (by omega)
      have a2 := below_w (px := px) (py := py) (qx := qx) (qy := qy) (cx := x) (cy := y2) (by omega) (by omega) (by omega) (by omega)
      omega
theorem part_h {px py qx qy y x1 x2 : Int} (h : op (tf px py qx qy x1 y) (tf px py qx qy x2 y)) (hy : op (py - y) (qy - y)) : 
    ¬ (px < x1 ∧ qx < x1 ∧ px < x2 ∧ qx < x2) ∧ ¬ (x1 < px ∧ x1 < qx ∧ x2 < px ∧ x2 < qx) := by
  refine part_v (px := py) (py := px) (qx := qy) (qy := qx) (x := y) (y1 := x1) (y2 := x2) ?_ hy
  rw [tf_t px py qx qy x1 y, tf_t px py qx qy x2 y]
  unfold op at h ⊢; omega
theorem wt_hs {px py qx qy w s e n y : Int} (hw : w < e) (h1 : s ≤ y) (h2 : y ≤ n) (h : hs px py qx qy w e y) : Wt px py qx qy w s e n := by
  rcases h with h | h | ⟨h, hy⟩
  · exact wt_cor (by unfold inn; omega) h
  · exact wt_cor (by unfold inn; omega) h
  · have p := part_h h hy
    have iw : inn w y w s e n := by unfold inn; omega
    have ie : inn e y w s e n := by unfold inn; omega
    unfold op at h hy
    refine ⟨by omega, by omega, by omega, by omega, ?_, ?_⟩
    · rcases h with h | h
      · exact tf_le ie (by omega)
      · exact tf_le iw (by omega)
    · rcases h with h | h
      · exact tf_ge iw (by omega)
      · exact tf_ge ie (by omega)
theorem wt_vs {px py qx qy w s e n x : Int} (hs' : s < n) (h1 : w ≤ x) (h2 : x ≤ e) (h : vs px py qx qy x s n) : Wt px py qx qy w s e n := by
  rcases h with h | h | ⟨h, hx⟩
  · exact wt_cor (by unfold inn; omega) h
  · exact wt_cor (by unfold inn; omega) h
  · have p := part_v h hx
    have iw : inn x s w s e n := by unfold inn; omega
    have ie : inn x n w s e n := by unfold inn; omega
    unfold op at h hx
    refine ⟨by omega, by omega, by omega, by omega, ?_, ?_⟩
    · rcases h with h | h
      · exact tf_le ie (by omega)
      · exact tf_le iw (by omega)
    · rcases h with h | h
      · exact tf_ge iw (by omega)
      · exact tf_ge ie (by omega)
theorem wt_of {px py qx qy w s e n : Int} (hw : w < e) (hs' : s < n) (h : Hit px py qx qy w s e n) : Wt px py qx qy w s e n := by
  rcases h with h | h | h | h | h | h
  · exact wt_in h
  · exact wt_in2 h
  · exact wt_hs hw (by omega) (by omega) h
  · exact wt_hs hw (by omega) (by omega) h
  · exact wt_vs hs' (by omega) (by omega) h
  · exact wt_vs hs' (by omega) (by omega) h
/-- a box within a box -/
theorem wt_mono {px py qx qy w s e n w2 s2 e2 n2 : Int} (h : Wt px py qx qy w s e n) (hw : w < e) (hs' : s < n) (a1 : w2 ≤ w) (a2 : s2 ≤ s) (a3 : e ≤ e2) (a4 : n ≤ n2) : Wt px py qx qy w2 s2 e2 n2 := by
  unfold Wt at h
  obtain ⟨k1, k2, k3, k4, k5, k6⟩ := h
  refine ⟨by omega, by omega, by omega, by omega, ?_, ?_⟩
  · rcases k5 with h | h | h | h <;> exact tf_le (by unfold inn; omega) h
  · rcases k6 with h | h | h | h <;> exact tf_ge (by unfold inn; omega) h
end Ge
end
/-! ### GStand -/
section
set_option linter.all false
namespace Ge
open LsGeo
instance (px py qx qy w s e n : Int) : Decidable (Wt px py qx qy w s e n) := by unfold Wt; infer_instance
theorem turn_tf (p q c : Pt) : turn p q c = tf p.x p.y q.x q.y c.x c.y := by unfold turn tf; rfl
/-! ## One way and a box: the specification's words -/
theorem meet_iff {a b c d : Pt} : meet a b c d = true ↔
    (op (turn a b c) (turn a b d) ∧ op (turn c d a) (turn c d b)) ∨ onSide c a b = true ∨ onSide d a b = true ∨ onSide a c d = true ∨ onSide b c d = true := by
  unfold meet op
  simp only [Bool.or_eq_true, Bool.and_eq_true, decide_eq_true_eq]
theorem onSide_cor {c p q : Pt} : onSide c p q = true ↔ cor p.x p.y q.x q.y c.x c.y := by
  rw [onSide_iff, turn_tf]; unfold cor bt; rfl
theorem op_mul {k a b : Int} (hk : k ≠ 0) : op (k * a) (k * b) ↔ op a b := by
  unfold op
  rcases Int.lt_or_gt_of_ne hk with h | h
  · have e : ∀ z, (0 < k * z ↔ z < 0) ∧ (k * z < 0 ↔ 0 < z) := fun z => by
      rcases Int.lt_trichotomy z 0 with q | q | q
      · have := imul_pos (a := k) (b := z) (by omega); constructor <;> omega
      · subst q; constructor <;> omega
      · have := imul_neg (a := k) (b := z) (by omega); constructor <;> omega
    have := e a; have := e b; omega
  · have e : ∀ z, (0 < k * z ↔ 0 < z) ∧ (k * z < 0 ↔ z < 0) := fun z => by
      rcases Int.lt_trichotomy z 0 with q | q | q
      · have := imul_neg (a := k) (b := z) (by omega); constructor <;> omega
      · subst q; constructor <;> omega
      · have := imul_pos (a := k) (b := z) (by omega); constructor <;> omega
    have := e a; have := e b; omega
theorem hs_swap {px py qx qy x1 x2 y : Int} (h : hs px py qx qy x1 x2 y) : hs px py qx qy x2 x1 y := by
  rcases h with h | h | ⟨h, k⟩
  · exact .inr (.inl h)
  · exact .inl h
  · exact .inr (.inr ⟨by unfold op at h ⊢; omega, k⟩)
theorem vs_swap {px py qx qy x y1 y2 : Int} (h : vs px py qx qy x y1 y2) : vs px py qx qy x y2 y1 := by
  rcases h with h | h | ⟨h, k⟩
  · exact .inr (.inl h)
  · exact .inl h
  · exact .inr (.inr ⟨by unfold op at h ⊢; omega, k⟩)
/-- a level side -/
theorem meet_h {p q : Pt} {x1 x2 y : Int} (hx : x1 ≠ x2) : meet p q ⟨x1, y⟩ ⟨x2, y⟩ = true ↔ hs p.x p.y q.x q.y x1 x2 y ∨ cor x1 y x2 y p.x p.y ∨ cor x1 y x2 y q.x q.y := by
  rw [meet_iff, onSide_cor, onSide_cor, onSide_cor, onSide_cor]
  have t1 : ∀ r : Pt, turn ⟨x1, y⟩ ⟨x2, y⟩ r = (x2 - x1) * (r.y - y) := fun r => by unfold turn; grind
  rw [t1, t1, op_mul (by omega), turn_tf, turn_tf]
  unfold hs
  constructor
  · rintro (h | h | h | h | h)
    · exact .inl (.inr (.inr h))
    · exact .inl (.inl h)
    · exact .inl (.inr (.inl h))
    · exact .inr (.inl h)
    · exact .inr (.inr h)
  · rintro ((h | h | h) | h | h)
    · exact .inr (.inl h)
    · exact .inr (.inr (.inl h))
    · exact .inl h
    · exact .inr (.inr (.inr (.inl h)))
    · exact .inr (.inr (.inr (.inr h)))
theorem meet_v {p q : Pt} {x y1 y2 : Int} (hy : y1 ≠ y2) : meet p q ⟨x, y1⟩ ⟨x, y2⟩ = true ↔ vs p.x p.y q.x q.y x y1 y2 ∨ cor x y1 x y2 p.x p.y ∨ cor x y1 x y2 q.x q.y := by
  rw [meet_iff, onSide_cor, onSide_cor, onSide_cor, onSide_cor]
  have t1 : ∀ r : Pt, turn ⟨x, y1⟩ ⟨x, y2⟩ r = (-(y2 - y1)) * (r.x - x) := fun r => by unfold turn; grind
  rw [t1, t1, op_mul (by omega), turn_tf, turn_tf]
  unfold vs
  constructor
  · rintro (h | h | h | h | h)
    · exact .inl (.inr (.inr h))
    · exact .inl (.inl h)
    · exact .inl (.inr (.inl h))
    · exact .inr (.inl h)
    · exact .inr (.inr h)
  · rintro ((h | h | h) | h | h)
    · exact .inr (.inl h)
    · exact .inr (.inr (.inl h))
    · exact .inl h
    · exact .inr (.inr (.inr (.inl h)))
    · exact .inr (.inr (.inr (.inr h)))
theorem cor_h {x1 x2 y px py : Int} (hx : x1 ≠ x2) (h : cor x1 y x2 y px py) : py = y ∧ bt x1 px x2 := by
  unfold cor at h
  obtain ⟨_, h1, h2⟩ := h
  unfold bt at h2
  exact ⟨by omega, h1⟩
theorem cor_v {x y1 y2 px py : Int} (hy : y1 ≠ y2) (h : cor x y1 x y2 px py) : px = x ∧ bt y1 py y2 := by
  unfold cor at h
  obtain ⟨_, h1, h2⟩ := h
  unfold bt at h1
  exact ⟨by omega, h2⟩
theorem inBox_iff {a b p : Pt} : inBox a b p = true ↔ inn p.x p.y a.x a.y b.x b.y := by
  unfold inBox inn
  simp only [Bool.and_eq_true, decide_eq_true_eq]
theorem ring_sides (a b : Pt) : sides (boxRing a b) = [(a, ⟨b.x, a.y⟩), (⟨b.x, a.y⟩, b), (b, ⟨a.x, b.y⟩), (⟨a.x, b.y⟩, a)] := rfl
/-- **a way has a point of a box** -/
theorem way_iff {a b p q : Pt} (hx : a.x < b.x) (hy : a.y < b.y) :
    Wt p.x p.y q.x q.y a.x a.y b.x b.y ↔ (inBox a b p = true ∨ inBox a b q = true ∨ ((sides (boxRing a b)).any fun v => meet p q v.1 v.2) = true) := by
  rw [inBox_iff, inBox_iff, ring_sides]
  simp only [List.any_cons, List.any_nil, Bool.or_false, Bool.or_eq_true]
  have m1 := meet_h (p := p) (q := q) (x1 := a.x) (x2 := b.x) (y := a.y) (by omega)
  have m2 := meet_v (p := p) (q := q) (x := b.x) (y1 := a.y) (y2 := b.y) (by omega)
  have m3 := meet_h (p := p) (q := q) (x1 := b.x) (x2 := a.x) (y := b.y) (by omega)
  have m4 := meet_v (p := p) (q := q) (x := a.x) (y1 := b.y) (y2 := a.y) (by omega)
  constructor
  · intro h
    rcases hit_of hx hy h with h | h | h | h | h | h
    · exact .inl h
    · exact .inr (.inl h)
    · exact .inr (.inr (.inl (m1.mpr (.inl h))))
    · exact .inr (.inr (.inr (.inr (.inl (m3.mpr (.inl (hs_swap h)))))))
    · exact .inr (.inr (.inr (.inr (.inr (m4.mpr (.inl (vs_swap h)))))))
    · exact .inr (.inr (.inr (.inl (m2.mpr (.inl h)))))
  · rintro (h | h | h | h | h | h)
    · exact wt_in h
    · exact wt_in2 h
    · rcases m1.mp h with h | h | h
      · exact wt_hs hx (by omega) (by omega) h
      · have := cor_h (by omega) h; refine wt_in ?_; unfold inn; unfold bt at this; omega
      · have := cor_h (by omega) h; refine wt_in2 ?_; unfold inn; unfold bt at this; omega
    · rcases m2.mp h with h | h | h
      · exact wt_vs hy (by omega) (by omega) h
      · have := cor_v (by omega) h; refine wt_in ?_; unfold inn; unfold bt at this; omega
      · have := cor_v (by omega) h; refine wt_in2 ?_; unfold inn; unfold bt at this; omega
    · rcases m3.mp h with h | h | h
      · exact wt_hs hx (by omega) (by omega) (hs_swap h)
      · have := cor_h (by omega) h; refine wt_in ?_; unfold inn; unfold bt at this; omega
      · have := cor_h (by omega) h; refine wt_in2 ?_; unfold inn; unfold bt at this; omega
    · rcases m4.mp h with h | h | h
      · exact wt_vs hy (by omega) (by omega) (vs_swap h)
      · have := cor_v (by omega) h; refine wt_in ?_; unfold inn; unfold bt at this; omega
      · have := cor_v (by omega) h; refine wt_in2 ?_; unfold inn; unfold bt at this; omega
/-- the box's south-west corner on a way -/
theorem way_corner {a b p q : Pt} (hx : a.x < b.x) (hy : a.y < b.y) (h : onSide a p q = true) : Wt p.x p.y q.x q.y a.x a.y b.x b.y := by
  refine wt_cor (cx := a.x) (cy := a.y) (by unfold inn; omega) (onSide_cor.mp h)

/-! ## How often eastwards: odd or even -/
def east (a : Pt) (s : Pt × Pt) : Bool := (decide (s.1.y ≤ a.y) && (decide (a.y < s.2.y) && decide (0 < turn s.1 s.2 a))) || (decide (s.2.y ≤ a.y) && (decide (a.y < s.1.y) && decide (turn s.1 s.2 a < 0)))
def odd (f : Pt × Pt → Bool) : List (Pt × Pt) → Bool
  | [] => false
  | s :: r => xor (f s) (odd f r)
theorem odd_len (f : Pt × Pt → Bool) : ∀ l : List (Pt × Pt), odd f l = decide ((l.filter f).length % 2 = 1)
  | [] => rfl
  | s :: r => by
    show xor (f s) (odd f r) = _
    rw [odd_len f r]
    cases h : f s
    · simp [h]
    · rw [List.filter_cons_of_pos h, List.length_cons]
      by_cases q : (r.filter f).length % 2 = 1
      · have : ¬ ((r.filter f).length + 1) % 2 = 1 := by omega
        simp [q, this]
      · have : ((r.filter f).length + 1) % 2 = 1 := by omega
        simp [q, this]
theorem odd_congr {f g : Pt × Pt → Bool} : ∀ {l : List (Pt × Pt)}, (∀ s ∈ l, f s = g s) → odd f l = odd g l
  | [], _ => rfl
  | s :: r, h => by
    show xor (f s) (odd f r) = xor (g s) (odd g r)
    rw [h s List.mem_cons_self, odd_congr (l := r) fun t ht => h t (List.mem_cons_of_mem _ ht)]
theorem odd_xor {f g : Pt × Pt → Bool} : ∀ {l : List (Pt × Pt)}, odd (fun s => xor (f s) (g s)) l = xor (odd f l) (odd g l)
  | [] => rfl
  | s :: r => by
    show xor (xor (f s) (g s)) (odd _ r) = xor (xor (f s) (odd f r)) (xor (g s) (odd g r))
    rw [odd_xor (l := r)]
    cases f s <;> cases g s <;> cases odd f r <;> cases odd g r <;> rfl
theorem odd_tele (b : Pt → Bool) (z : Pt) : ∀ (x : Pt) (r : List Pt), odd (fun s => xor (b s.1) (b s.2)) ((x :: r).zip (r ++ [z])) = xor (b x) (b z)
  | x, [] => by simp [odd]
  | x, y :: r => by
    show xor (xor (b x) (b y)) (odd _ ((y :: r).zip (r ++ [z]))) = _
    rw [odd_tele b z y r]
    cases b x <;> cases b y <;> cases b z <;> rfl
theorem odd_ring (b : Pt → Bool) (l : List Pt) : odd (fun s => xor (b s.1) (b s.2)) (sides l) = false := by
  cases l with
  | nil => rfl
  | cons x r =>
    show odd _ ((x :: r).zip (r ++ [x])) = false
    rw [odd_tele]; cases b x <;> rfl
theorem east_swap (a p q : Pt) : east a (p, q) = east a (q, p) := by
  unfold east
  simp only
  rw [turn_swap q p a]
  cases h1 : decide (p.y ≤ a.y) <;> cases h2 : decide (a.y < q.y) <;> cases h3 : decide (q.y ≤ a.y) <;> cases h4 : decide (a.y < p.y) <;>
    simp only [Bool.false_and, Bool.true_and, Bool.false_or, Bool.or_false]
  all_goals first
    | rfl
    | (rw [decide_eq_decide]; omega)
    | (congr 1; rw [decide_eq_decide]; omega)
    | (simp only [decide_eq_true_eq, decide_eq_false_iff_not] at h1 h2 h3 h4; omega)
    | skip
theorem wt_swap {px py qx qy w s e n : Int} (h : Wt px py qx qy w s e n) : Wt qx qy px py w s e n := by
  have z := fun cx cy => (show tf qx qy px py cx cy = - tf px py qx qy cx cy by unfold tf; grind)
  unfold Wt at h ⊢
  simp only [z]
  omega
/-- outside of the box sideways: where a place lies -/
theorem core2 {A B C D : Int} (h1 : 0 ≤ B) (h2 : B < A) (h3 : D ≤ C) (h4 : 0 < C) : D * B < A * C := by
  have a1 : C * B < C * A := Int.mul_lt_mul_of_pos_left h2 h4
  have a2 : D * B ≤ C * B := Int.mul_le_mul_of_nonneg_right h3 h1
  have a3 : C * A = A * C := Int.mul_comm _ _
  omega
/-- a way up, a place on its height east of both its ends: on its right; west: on its left -/
theorem right_of {px py qx qy cx cy : Int} (h1 : py ≤ cy) (h2 : cy < qy) (h3 : px < cx) (h4 : qx < cx) : tf px py qx qy cx cy < 0 := by
  have := core2 (A := qy - py) (B := cy - py) (C := cx - px) (D := qx - px) (by omega) (by omega) (by omega) (by omega)
  unfold tf; omega
theorem left_of {px py qx qy cx cy : Int} (h1 : py ≤ cy) (h2 : cy < qy) (h3 : cx < px) (h4 : cx < qx) : 0 < tf px py qx qy cx cy := by
  have := right_of (px := -px) (py := py) (qx := -qx) (qy := qy) (cx := -cx) (cy := cy) h1 h2 (by omega) (by omega)
  rw [tf_mx] at this; omega
/-- a way that doesn't touch the box but is on its height: all places of the box lie on one side of it -/
theorem one_side {px py qx qy w s e n : Int} (hn : ¬ Wt px py qx qy w s e n) (k3 : s ≤ py ∨ s ≤ qy) (k4 : py ≤ n ∨ qy ≤ n) :
    (px < w ∧ qx < w) ∨ (e < px ∧ e < qx) ∨ (∀ x y, inn x y w s e n → 0 < tf px py qx qy x y) ∨ (∀ x y, inn x y w s e n → tf px py qx qy x y < 0) := by
  by_cases c1 : px < w ∧ qx < w
  · exact .inl c1
  by_cases c2 : e < px ∧ e < qx
  · exact .inr (.inl c2)
  refine .inr (.inr ?_)
  by_cases c3 : tf px py qx qy w s ≤ 0 ∨ tf px py qx qy e s ≤ 0 ∨ tf px py qx qy w n ≤ 0 ∨ tf px py qx qy e n ≤ 0
  · right
    intro x y hi
    apply Classical.byContradiction
    intro z
    exact hn ⟨by omega, by omega, k3, k4, c3, tf_ge hi (by omega)⟩
  · left
    intro x y hi
    apply Classical.byContradiction
    intro z
    exact c3 (tf_le hi (by omega))
theorem east_up {a p q : Pt} (h : p.y ≤ q.y) : east a (p, q) = decide (p.y ≤ a.y ∧ a.y < q.y ∧ 0 < turn p q a) := by
  unfold east
  rw [Bool.eq_iff_iff]
  simp only [Bool.or_eq_true, Bool.and_eq_true, decide_eq_true_eq]
  omega
/-- level: the same -/
theorem level_up {p q u v : Pt} {w s e n : Int} (hpq : p.y ≤ q.y) (hn : ¬ Wt p.x p.y q.x q.y w s e n) (hu : inn u.x u.y w s e n) (hv : inn v.x v.y w s e n) (hy : u.y = v.y) : east u (p, q) = east v (p, q) := by
  rw [east_up hpq, east_up hpq, hy]
  by_cases st : p.y ≤ v.y ∧ v.y < q.y
  · have o := one_side hn (by unfold inn at hv; omega) (by unfold inn at hv; omega)
    rw [decide_eq_decide, turn_tf, turn_tf]
    unfold inn at hu hv
    rcases o with o | o | o | o
    · have r1 := right_of (px := p.x) (py := p.y) (qx := q.x) (qy := q.y) (cx := u.x) (cy := u.y) (by omega) (by omega) (by omega) (by omega)
      have r2 := right_of (px := p.x) (py := p.y) (qx := q.x) (qy := q.y) (cx := v.x) (cy := v.y) (by omega) (by omega) (by omega) (by omega)
      omega
    · have r1 := left_of (px := p.x) (py := p.y) (qx := q.x) (qy := q.y) (cx := u.x) (cy := u.y) (by omega) (by omega) (by omega) (by omega)
      have r2 := left_of (px := p.x) (py := p.y) (qx := q.x) (qy := q.y) (cx := v.x) (cy := v.y) (by omega) (by omega) (by omega) (by omega)
      omega
    · have r1 := o u.x u.y (by unfold inn; omega)
      have r2 := o v.x v.y (by unfold inn; omega)
      omega
    · have r1 := o u.x u.y (by unfold inn; omega)
      have r2 := o v.x v.y (by unfold inn; omega)
      omega
  · rw [decide_eq_decide]; omega
theorem level {s : Pt × Pt} {u v : Pt} {w so e n : Int} (hn : ¬ Wt s.1.x s.1.y s.2.x s.2.y w so e n) (hu : inn u.x u.y w so e n) (hv : inn v.x v.y w so e n) (hy : u.y = v.y) : east u s = east v s := by
  obtain ⟨p, q⟩ := s
  by_cases h : p.y ≤ q.y
  · exact level_up h hn hu hv hy
  · rw [east_swap, east_swap v]
    exact level_up (by omega) (fun z => hn (wt_swap z)) hu hv hy
/-- upwards: what changes is told by the ends -/
def inBand (x y1 y2 : Int) (k : Pt) : Bool := decide (y1 < k.y ∧ k.y ≤ y2 ∧ x < k.x)
theorem tf_at_q {px py qx qy x : Int} : tf px py qx qy x qy = (qy - py) * (qx - x) := by unfold tf; grind
theorem tf_at_p {px py qx qy x : Int} : tf px py qx qy x py = (qy - py) * (px - x) := by unfold tf; grind
theorem upward_up {p q : Pt} {x y1 y2 w s e n : Int} (hpq : p.y ≤ q.y) (hn : ¬ Wt p.x p.y q.x q.y w s e n) (h1 : s ≤ y1) (h12 : y1 ≤ y2) (h2 : y2 ≤ n) (hx : w ≤ x ∧ x ≤ e) :
    xor (east ⟨x, y2⟩ (p, q)) (east ⟨x, y1⟩ (p, q)) = xor (inBand x y1 y2 p) (inBand x y1 y2 q) := by
  rw [east_up hpq, east_up hpq]
  unfold inBand
  simp only [turn_tf]
  by_cases lo : q.y ≤ y1
  · have e1 : ¬ (p.y ≤ y2 ∧ y2 < q.y ∧ 0 < tf p.x p.y q.x q.y x y2) := by omega
    have e2 : ¬ (p.y ≤ y1 ∧ y1 < q.y ∧ 0 < tf p.x p.y q.x q.y x y1) := by omega
    have e3 : ¬ (y1 < p.y ∧ p.y ≤ y2 ∧ x < p.x) := by omega
    have e4 : ¬ (y1 < q.y ∧ q.y ≤ y2 ∧ x < q.x) := by omega
    simp [e1, e2, e3, e4]
  by_cases hi : y2 < p.y
  · have e1 : ¬ (p.y ≤ y2 ∧ y2 < q.y ∧ 0 < tf p.x p.y q.x q.y x y2) := by omega
    have e2 : ¬ (p.y ≤ y1 ∧ y1 < q.y ∧ 0 < tf p.x p.y q.x q.y x y1) := by omega
    have e3 : ¬ (y1 < p.y ∧ p.y ≤ y2 ∧ x < p.x) := by omega
    have e4 : ¬ (y1 < q.y ∧ q.y ≤ y2 ∧ x < q.x) := by omega
    simp [e1, e2, e3, e4]
  have o := one_side hn (by omega) (by omega)
  have i1 : inn x y1 w s e n := by unfold inn; omega
  have i2 : inn x y2 w s e n := by unfold inn; omega
  by_cases pl : p.y ≤ y1
  · have e3 : ¬ (y1 < p.y ∧ p.y ≤ y2 ∧ x < p.x) := by omega
    by_cases qh : y2 < q.y
    · have e4 : ¬ (y1 < q.y ∧ q.y ≤ y2 ∧ x < q.x) := by omega
      have eq : (p.y ≤ y2 ∧ y2 < q.y ∧ 0 < tf p.x p.y q.x q.y x y2) ↔ (p.y ≤ y1 ∧ y1 < q.y ∧ 0 < tf p.x p.y q.x q.y x y1) := by
        rcases o with o | o | o | o
        · have r1 := right_of (px := p.x) (py := p.y) (qx := q.x) (qy := q.y) (cx := x) (cy := y1) (by omega) (by omega) (by omega) (by omega)
          have r2 := right_of (px := p.x) (py := p.y) (qx := q.x) (qy := q.y) (cx := x) (cy := y2) (by omega) (by omega) (by omega) (by omega)
          omega
        · have r1 := left_of (px := p.x) (py := p.y) (qx := q.x) (qy := q.y) (cx := x) (cy := y1) (by omega) (by omega) (by omega) (by omega)
          have r2 := left_of (px := p.x) (py := p.y) (qx := q.x) (qy := q.y) (cx := x) (cy := y2) (by omega) (by omega) (by omega) (by omega)
          omega
        · have := o _ _ i1; have := o _ _ i2; omega
        · have := o _ _ i1; have := o _ _ i2; omega
      simp only [eq]
      simp [e3, e4]
    · have e1 : ¬ (p.y ≤ y2 ∧ y2 < q.y ∧ 0 < tf p.x p.y q.x q.y x y2) := by omega
      have eq : (p.y ≤ y1 ∧ y1 < q.y ∧ 0 < tf p.x p.y q.x q.y x y1) ↔ (y1 < q.y ∧ q.y ≤ y2 ∧ x < q.x) := by
        have iq : inn x q.y w s e n := by unfold inn; omega
        have tq := tf_at_q (px := p.x) (py := p.y) (qx := q.x) (qy := q.y) (x := x)
        rcases o with o | o | o | o
        · have r1 := right_of (px := p.x) (py := p.y) (qx := q.x) (qy := q.y) (cx := x) (cy := y1) (by omega) (by omega) (by omega) (by omega)
          omega
        · have r1 := left_of (px := p.x) (py := p.y) (qx := q.x) (qy := q.y) (cx := x) (cy := y1) (by omega) (by omega) (by omega) (by omega)
          omega
        · have a1 := o _ _ i1
          have a2 := o _ _ iq
          rw [tq] at a2
          have : ¬ (q.x - x ≤ 0) := fun z => by have := imul_nonpos (a := q.y - p.y) (b := q.x - x) (by omega); omega
          omega
        · have a1 := o _ _ i1
          have a2 := o _ _ iq
          rw [tq] at a2
          have : ¬ (0 ≤ q.x - x) := fun z => by have := imul_nonneg (a := q.y - p.y) (b := q.x - x) (by omega); omega
          omega
      simp only [eq]
      simp [e1, e3]
  · have e2 : ¬ (p.y ≤ y1 ∧ y1 < q.y ∧ 0 < tf p.x p.y q.x q.y x y1) := by omega
    have ip : inn x p.y w s e n := by unfold inn; omega
    have tp := tf_at_p (px := p.x) (py := p.y) (qx := q.x) (qy := q.y) (x := x)
    by_cases qh : y2 < q.y
    · have e4 : ¬ (y1 < q.y ∧ q.y ≤ y2 ∧ x < q.x) := by omega
      have eq : (p.y ≤ y2 ∧ y2 < q.y ∧ 0 < tf p.x p.y q.x q.y x y2) ↔ (y1 < p.y ∧ p.y ≤ y2 ∧ x < p.x) := by
        rcases o with o | o | o | o
        · have r1 := right_of (px := p.x) (py := p.y) (qx := q.x) (qy := q.y) (cx := x) (cy := y2) (by omega) (by omega) (by omega) (by omega)
          omega
        · have r1 := left_of (px := p.x) (py := p.y) (qx := q.x) (qy := q.y) (cx := x) (cy := y2) (by omega) (by omega) (by omega) (by omega)
          omega
        · have a1 := o _ _ i2
          have a2 := o _ _ ip
          rw [tp] at a2
          have : ¬ (p.x - x ≤ 0) := fun z => by have := imul_nonpos (a := q.y - p.y) (b := p.x - x) (by omega); omega
          omega
        · have a1 := o _ _ i2
          have a2 := o _ _ ip
          rw [tp] at a2
          have : ¬ (0 ≤ p.x - x) := fun z => by have := imul_nonneg (a := q.y - p.y) (b := p.x - x) (by omega); omega
          omega
      simp only [eq]
      simp [e2, e4]
    · have e1 : ¬ (p.y ≤ y2 ∧ y2 < q.y ∧ 0 < tf p.x p.y q.x q.y x y2) := by omega
      have iq : inn x q.y w s e n := by unfold inn; omega
      have tq := tf_at_q (px := p.x) (py := p.y) (qx := q.x) (qy := q.y) (x := x)
      have eq : (y1 < p.y ∧ p.y ≤ y2 ∧ x < p.x) ↔ (y1 < q.y ∧ q.y ≤ y2 ∧ x < q.x) := by
        rcases o with o | o | o | o
        · omega
        · omega
        · have a1 := o _ _ ip
          have a2 := o _ _ iq
          rw [tp] at a1
          rw [tq] at a2
          have : ¬ (p.x - x ≤ 0) := fun z => by have := imul_nonpos (a := q.y - p.y) (b := p.x - x) (by omega); omega
          have : ¬ (q.x - x ≤ 0) := fun z => by have := imul_nonpos (a := q.y - p.y) (b := q.x - x) (by omega); omega
          omega
        · have a1 := o _ _ ip
          have a2 := o _ _ iq
          rw [tp] at a1
          rw [tq] at a2
          have : ¬ (0 ≤ p.x - x) := fun z => by have := imul_nonneg (a := q.y - p.y) (b := p.x - x) (by omega); omega
          have : ¬ (0 ≤ q.x - x) := fun z => by have := imul_nonneg (a := q.y - p.y) (b := q.x - x) (by omega); omega
          omega
      simp only [eq]
      simp [e1, e2]
theorem upward {t : Pt × Pt} {x y1 y2 w s e n : Int} (hn : ¬ Wt t.1.x t.1.y t.2.x t.2.y w s e n) (h1 : s ≤ y1) (h12 : y1 ≤ y2) (h2 : y2 ≤ n) (hx : w ≤ x ∧ x ≤ e) :
    xor (east ⟨x, y2⟩ t) (east ⟨x, y1⟩ t) = xor (inBand x y1 y2 t.1) (inBand x y1 y2 t.2) := by
  obtain ⟨p, q⟩ := t
  by_cases h : p.y ≤ q.y
  · exact upward_up h hn h1 h12 h2 hx
  · rw [east_swap, east_swap ⟨x, y1⟩, Bool.xor_comm (inBand x y1 y2 p)]
    exact upward_up (by omega) (fun z => hn (wt_swap z)) h1 h12 h2 hx
/-- **within a box that no side touches all places have as many sides eastwards: odd or even** -/
theorem odd_box {l : List Pt} {u v : Pt} {w s e n : Int} (hn : ∀ t ∈ sides l, ¬ Wt t.1.x t.1.y t.2.x t.2.y w s e n) (hu : inn u.x u.y w s e n) (hv : inn v.x v.y w s e n) (hvu : u.y ≤ v.y) : odd (east v) (sides l) = odd (east u) (sides l) := by
  have e1 : odd (east v) (sides l) = odd (east ⟨u.x, v.y⟩) (sides l) := odd_congr fun t ht => level (hn t ht) hv (by unfold inn at hu hv ⊢; simp only; omega) rfl
  have e2 : xor (odd (east ⟨u.x, v.y⟩) (sides l)) (odd (east ⟨u.x, u.y⟩) (sides l)) = false := by
    rw [← odd_xor, odd_congr (g := fun t => xor (inBand u.x u.y v.y t.1) (inBand u.x u.y v.y t.2)) fun t ht => upward (hn t ht) (by unfold inn at hu; omega) hvu (by unfold inn at hv; omega) (by unfold inn at hu; omega)]
    exact odd_ring _ _
  rw [e1]
  show odd (east ⟨u.x, v.y⟩) (sides l) = odd (east ⟨u.x, u.y⟩) (sides l)
  revert e2
  cases odd (east ⟨u.x, v.y⟩) (sides l) <;> cases odd (east ⟨u.x, u.y⟩) (sides l) <;> simp
/-- a ring that lies apart from a box: even at the box's south-west corner -/
theorem odd_apart {l : List Pt} {w s e n : Int} (hw : w < e) (hs' : s < n)
    (h : (∀ p ∈ l, e < p.x) ∨ (∀ p ∈ l, p.x < w) ∨ (∀ p ∈ l, n < p.y) ∨ (∀ p ∈ l, p.y < s)) : odd (east ⟨w, s⟩) (sides l) = false := by
  have mem : ∀ t ∈ sides l, t.1 ∈ l ∧ t.2 ∈ l := fun t ht => by
    unfold sides at ht
    obtain ⟨a, b⟩ := t
    have m := List.of_mem_zip ht
    refine ⟨m.1, ?_⟩
    rcases List.mem_append.mp m.2 with z | z
    · exact List.mem_of_mem_drop z
    · exact List.mem_of_mem_take z
  have key1 : ∀ p q : Pt, p ∈ l → q ∈ l → (∀ p ∈ l, e < p.x) → p.y ≤ q.y → east ⟨w, s⟩ (p, q) = xor (decide (s < p.y)) (decide (s < q.y)) := fun p q hp hq h hpq => by
    rw [east_up hpq, turn_tf]
    simp only
    have a := h p hp; have b := h q hq
    by_cases st : p.y ≤ s ∧ s < q.y
    · have := left_of (px := p.x) (py := p.y) (qx := q.x) (qy := q.y) (cx := w) (cy := s) st.1 st.2 (by omega) (by omega)
      have c1 : ¬ (s < p.y) := by omega
      have c3 : (p.y ≤ s ∧ s < q.y ∧ 0 < tf p.x p.y q.x q.y w s) := by omega
      simp [c1, st.2, c3]
    · have c3 : ¬ (p.y ≤ s ∧ s < q.y ∧ 0 < tf p.x p.y q.x q.y w s) := by omega
      have c4 : (s < p.y) ↔ (s < q.y) := by omega
      rw [decide_eq_false c3]
      simp only [c4, Bool.xor_self]
  have key2 : ∀ p q : Pt, p ∈ l → q ∈ l → ((∀ p ∈ l, p.x < w) ∨ (∀ p ∈ l, n < p.y) ∨ (∀ p ∈ l, p.y < s)) → p.y ≤ q.y → east ⟨w, s⟩ (p, q) = false := fun p q hp hq h hpq => by
    rw [east_up hpq, turn_tf]
    simp only
    refine decide_eq_false fun z => ?_
    rcases h with h | h | h
    · have a := h p hp; have b := h q hq
      have := right_of (px := p.x) (py := p.y) (qx := q.x) (qy := q.y) (cx := w) (cy := s) z.1 z.2.1 (by omega) (by omega)
      omega
    · have a := h p hp; omega
    · have a := h q hq; omega
  rcases h with h | h
  · rw [odd_congr (g := fun t => xor ((fun k : Pt => decide (s < k.y)) t.1) ((fun k : Pt => decide (s < k.y)) t.2)) fun t ht => ?_]
    · exact odd_ring (fun k : Pt => decide (s < k.y)) _
    · obtain ⟨p, q⟩ := t
      have m := mem _ ht
      by_cases hpq : p.y ≤ q.y
      · exact key1 p q m.1 m.2 h hpq
      · rw [east_swap, Bool.xor_comm]
        exact key1 q p m.2 m.1 h (by omega)
  · rw [odd_congr (g := fun t => xor ((fun _ : Pt => false) t.1) ((fun _ : Pt => false) t.2)) fun t ht => ?_]
    · exact odd_ring (fun _ : Pt => false) _
    · obtain ⟨p, q⟩ := t
      have m := mem _ ht
      by_cases hpq : p.y ≤ q.y
      · exact key2 p q m.1 m.2 h hpq
      · rw [east_swap]
        exact key2 q p m.2 m.1 h (by omega)
end Ge
end
/-! ### GSheets -/
section
set_option linter.all false
namespace Ge
open LsGeo LsLand LsEdit
open LsRefs (Sheet)
def anyTouches (L : List (Pt × Pt)) (w s e n : Int) : Bool := L.any fun t => decide (Wt t.1.x t.1.y t.2.x t.2.y w s e n)
def apartB (f : Shape) (w s e n : Int) : Bool := let q := LsBook.boxOf f
  if q.1 > e ∨ q.2.2.1 < w then true else decide (q.2.1 > n) || decide (q.2.2.2 < s)
/-- the program's stands_on -/
def standsOn (f : Shape) (w s e n : Int) : Bool := if apartB f w s e n = true then false else match f with
  | .spot _ => true
  | .line l => anyTouches (l.zip (l.drop 1)) w s e n
  | .area l => if anyTouches (sides l) w s e n = true then true else odd (east ⟨w, s⟩) (sides l)
def okS : Shape → Prop
  | .spot _ => True
  | .line l => 2 ≤ l.length
  | .area l => l ≠ []
def touch (L : List (Pt × Pt)) (w s e n : Int) : Prop := ∃ t ∈ L, Wt t.1.x t.1.y t.2.x t.2.y w s e n
def St (f : Shape) (w s e n : Int) : Prop := match f with
  | .spot p => inn p.x p.y w s e n
  | .line l => touch (l.zip (l.drop 1)) w s e n
  | .area l => touch (sides l) w s e n ∨ odd (east ⟨w, s⟩) (sides l) = true
theorem anyT {L : List (Pt × Pt)} {w s e n : Int} : anyTouches L w s e n = true ↔ touch L w s e n := by
  unfold anyTouches touch
  rw [List.any_eq_true]
  simp only [decide_eq_true_eq]
theorem foldl_min : ∀ (r : List Int) (x : Int), (r.foldl min x ∈ x :: r) ∧ ∀ y ∈ x :: r, r.foldl min x ≤ y
  | [], x => by simp
  | a :: r, x => by
    have ih := foldl_min r (min x a)
    show (r.foldl min (min x a) ∈ _) ∧ ∀ y ∈ x :: a :: r, r.foldl min (min x a) ≤ y
    refine ⟨?_, fun y hy => ?_⟩
    · rcases List.mem_cons.mp ih.1 with z | z
      · rw [z]
        by_cases q : x ≤ a
        · rw [Int.min_eq_left q]; simp
        · rw [Int.min_eq_right (by omega)]; simp
      · exact List.mem_cons_of_mem _ (List.mem_cons_of_mem _ z)
    · have h0 := ih.2 (min x a) List.mem_cons_self
      rcases List.mem_cons.mp hy with rfl | hy
      · omega
      · rcases List.mem_cons.mp hy with rfl | hy
        · omega
        · exact ih.2 y (List.mem_cons_of_mem _ hy)
theorem foldl_max : ∀ (r : List Int) (x : Int), (r.foldl max x ∈ x :: r) ∧ ∀ y ∈ x :: r, y ≤ r.foldl max x
  | [], x => by simp
  | a :: r, x => by
    have ih := foldl_max r (max x a)
    show (r.foldl max (max x a) ∈ _) ∧ ∀ y ∈ x :: a :: r, y ≤ r.foldl max (max x a)
    refine ⟨?_, fun y hy => ?_⟩
    · rcases List.mem_cons.mp ih.1 with z | z
      · rw [z]
        by_cases q : x ≤ a
        · rw [Int.max_eq_right q]; simp
        · rw [Int.max_eq_left (by omega)]; simp
      · exact List.mem_cons_of_mem _ (List.mem_cons_of_mem _ z)
    · have h0 := ih.2 (max x a) List.mem_cons_self
      rcases List.mem_cons.mp hy with rfl | hy
      · omega
      · rcases List.mem_cons.mp hy with rfl | hy
        · omega
        · exact ih.2 y (List.mem_cons_of_mem _ hy)
theorem least_lt {l : List Int} (h : l ≠ []) (z : Int) : z < LsBook.least l ↔ ∀ x ∈ l, z < x := by
  cases l with
  | nil => exact absurd rfl h
  | cons a r =>
    have := foldl_min r a
    show z < r.foldl min a ↔ _
    constructor
    · intro q x hx; have := this.2 x hx; omega
    · intro q; exact q _ this.1
theorem most_lt {l : List Int} (h : l ≠ []) (z : Int) : LsBook.most l < z ↔ ∀ x ∈ l, x < z := by
  cases l with
  | nil => exact absurd rfl h
  | cons a r =>
    have := foldl_max r a
    show r.foldl max a < z ↔ _
    constructor
    · intro q x hx; have := this.2 x hx; omega
    · intro q; exact q _ this.1
theorem places_ne {f : Shape} (h : okS f) : f.places ≠ [] := by
  cases f with
  | spot p => simp [Shape.places]
  | line l => intro z; simp only [Shape.places] at z; subst z; simp [okS] at h
  | area l => exact h
theorem apart_iff {f : Shape} (h : okS f) {w s e n : Int} : apartB f w s e n = true ↔ (∀ p ∈ f.places, e < p.x) ∨ (∀ p ∈ f.places, p.x < w) ∨ (∀ p ∈ f.places, n < p.y) ∨ (∀ p ∈ f.places, p.y < s) := by
  have ne := places_ne h
  have nx : (f.places.map fun (p : Pt) => p.x) ≠ [] := fun z => ne (List.map_eq_nil_iff.mp z)
  have ny : (f.places.map fun (p : Pt) => p.y) ≠ [] := fun z => ne (List.map_eq_nil_iff.mp z)
  have a1 := least_lt nx e
  have a2 := most_lt nx w
  have a3 := least_lt ny n
  have a4 := most_lt ny s
  simp only [List.forall_mem_map] at a1 a2 a3 a4
  unfold apartB LsBook.boxOf
  simp only [gt_iff_lt]
  split
  · rename_i c
    simp only [true_iff]
    rcases c with c | c
    · exact .inl (a1.mp c)
    · exact .inr (.inl (a2.mp c))
  · rename_i c
    rw [Bool.or_eq_true, decide_eq_true_eq, decide_eq_true_eq]
    constructor
    · rintro (z | z)
      · exact .inr (.inr (.inl (a3.mp z)))
      · exact .inr (.inr (.inr (a4.mp z)))
    · rintro (z | z | z | z)
      · exact absurd (.inl (a1.mpr z)) c
      · exact absurd (.inr (a2.mpr z)) c
      · exact .inl (a3.mpr z)
      · exact .inr (a4.mpr z)
theorem mem_zip1 {l : List Pt} {t : Pt × Pt} (h : t ∈ l.zip (l.drop 1)) : t.1 ∈ l ∧ t.2 ∈ l := by
  obtain ⟨a, b⟩ := t
  have m := List.of_mem_zip h
  exact ⟨m.1, List.mem_of_mem_drop m.2⟩
theorem mem_sides {l : List Pt} {t : Pt × Pt} (h : t ∈ sides l) : t.1 ∈ l ∧ t.2 ∈ l := by
  unfold sides at h
  obtain ⟨a, b⟩ := t
  have m := List.of_mem_zip h
  refine ⟨m.1, ?_⟩
  rcases List.mem_append.mp m.2 with z | z
  · exact List.mem_of_mem_drop z
  · exact List.mem_of_mem_take z
theorem in_zip1 : ∀ {l : List Pt} {p : Pt}, p ∈ l → 2 ≤ l.length → ∃ t ∈ l.zip (l.drop 1), t.1 = p ∨ t.2 = p
  | [], _, h, _ => by simp at h
  | [_], _, _, h => by simp at h
  | [a, b], p, h, _ => by
    refine ⟨(a, b), by simp, ?_⟩
    simp at h
    rcases h with rfl | rfl <;> simp
  | a :: b :: c :: r, p, h, _ => by
    rcases List.mem_cons.mp h with rfl | h
    · exact ⟨(p, b), by simp, .inl rfl⟩
    · obtain ⟨t, ht, e⟩ := in_zip1 (l := b :: c :: r) h (by simp)
      refine ⟨t, ?_, e⟩
      show t ∈ (a, b) :: ((b :: c :: r).zip ((b :: c :: r).drop 1))
      exact List.mem_cons_of_mem _ ht
theorem in_sides {l : List Pt} {p : Pt} (h : p ∈ l) : ∃ t ∈ sides l, t.1 = p := by
  obtain ⟨i, hi, e⟩ := List.mem_iff_getElem.mp h
  have g := sides_get hi
  refine ⟨_, List.mem_of_getElem? g, ?_⟩
  show at_ l i = p
  have := at_get hi
  rw [List.getElem?_eq_getElem hi, e] at this
  exact (Option.some.inj this).symm
theorem touch_near {L : List (Pt × Pt)} {l : List Pt} {w s e n : Int} (m : ∀ t ∈ L, t.1 ∈ l ∧ t.2 ∈ l) (h : touch L w s e n) :
    ¬ ((∀ p ∈ l, e < p.x) ∨ (∀ p ∈ l, p.x < w) ∨ (∀ p ∈ l, n < p.y) ∨ (∀ p ∈ l, p.y < s)) := by
  obtain ⟨t, ht, q⟩ := h
  have mt := m t ht
  obtain ⟨k1, k2, k3, k4, _, _⟩ := q
  rintro (z | z | z | z)
  · have := z _ mt.1; have := z _ mt.2; omega
  · have := z _ mt.1; have := z _ mt.2; omega
  · have := z _ mt.1; have := z _ mt.2; omega
  · have := z _ mt.1; have := z _ mt.2; omega
/-- **the program's look** -/
theorem stands_iff {f : Shape} (h : okS f) {w s e n : Int} (hw : w < e) (hs' : s < n) : standsOn f w s e n = true ↔ St f w s e n := by
  unfold standsOn
  by_cases ap : apartB f w s e n = true
  · rw [if_pos ap]
    have a := (apart_iff h).mp ap
    constructor
    · intro z; cases z
    · intro z
      exfalso
      cases f with
      | spot p =>
        simp only [Shape.places, List.mem_singleton, forall_eq] at a
        unfold St inn at z
        simp only at z
        omega
      | line l => exact touch_near (fun t ht => mem_zip1 ht) z a
      | area l =>
        rcases z with z | z
        · exact touch_near (fun t ht => mem_sides ht) z a
        · rw [odd_apart (l := l) hw hs' a] at z; cases z
  · rw [if_neg ap]
    have a : ¬ _ := fun q => ap ((apart_iff h).mpr q)
    cases f with
    | spot p =>
      simp only [Shape.places, List.mem_singleton, forall_eq] at a
      unfold St inn
      simp only [true_iff]
      omega
    | line l => exact anyT
    | area l =>
      show (if anyTouches (sides l) w s e n = true then true else odd (east ⟨w, s⟩) (sides l)) = true ↔ _
      by_cases q : anyTouches (sides l) w s e n = true
      · rw [if_pos q]
        exact ⟨fun _ => .inl (anyT.mp q), fun _ => rfl⟩
      · rw [if_neg q]
        exact ⟨fun z => .inr z, fun z => by
          rcases z with z | z
          · exact absurd (anyT.mpr z) q
          · exact z⟩
theorem inRing_ne {l : List Pt} {p : Pt} : (inRing l p != 0) = true ↔ ((sides l).any (fun (s : Pt × Pt) => onSide p s.1 s.2) = true ∨ odd (east p) (sides l) = true) := by
  unfold inRing
  by_cases c : (sides l).any (fun (s : Pt × Pt) => onSide p s.1 s.2) = true
  · rw [if_pos c]; simp [c]
  · rw [if_neg c, odd_len]
    have e : (sides l).filter (fun (s : Pt × Pt) => (decide (s.1.y ≤ p.y) && (decide (p.y < s.2.y) && decide (0 < turn s.1 s.2 p))) || (decide (s.2.y ≤ p.y) && (decide (p.y < s.1.y) && decide (turn s.1 s.2 p < 0)))) = (sides l).filter (east p) := rfl
    simp only
    rw [e]
    by_cases q : ((sides l).filter (east p)).length % 2 = 1
    · rw [if_pos q]; simp [q]
    · rw [if_neg q]; simp [c, q]
/-- the specification's look -/
theorem spec_iff {f : Shape} (h : okS f) {a b : Pt} (hx : a.x < b.x) (hy : a.y < b.y) : f.inBox_ a b = true ↔ St f a.x a.y b.x b.y := by
  unfold Shape.inBox_
  simp only [Bool.or_eq_true]
  cases f with
  | spot p =>
    simp only [Shape.places, Shape.ways, Shape.how, List.any_cons, List.any_nil, Bool.or_false, Bool.false_eq_true, false_or]
    unfold St
    simp only
    rw [inBox_iff]
    constructor
    · rintro (z | z)
      · exact z
      · by_cases q : a = p
        · subst q; unfold inn; omega
        · rw [if_neg q] at z; simp at z
    · intro z; exact .inl z
  | line l =>
    show (l.any (inBox a b) = true ∨ ((l.zip (l.drop 1)).any fun w => (sides (boxRing a b)).any fun v => meet w.1 w.2 v.1 v.2) = true ∨ ((if (l.zip (l.drop 1)).any (fun w => onSide a w.1 w.2) = true then 1 else 0) != 0) = true) ↔ touch (l.zip (l.drop 1)) a.x a.y b.x b.y
    unfold touch
    constructor
    · rintro (z | z | z)
      · obtain ⟨p, hp, hb⟩ := List.any_eq_true.mp z
        obtain ⟨t, ht, e⟩ := in_zip1 hp h
        refine ⟨t, ht, (way_iff hx hy).mpr ?_⟩
        rcases e with e | e
        · rw [e]; exact .inl hb
        · rw [e]; exact .inr (.inl hb)
      · obtain ⟨t, ht, hb⟩ := List.any_eq_true.mp z
        exact ⟨t, ht, (way_iff hx hy).mpr (.inr (.inr hb))⟩
      · by_cases q : (l.zip (l.drop 1)).any (fun w => onSide a w.1 w.2) = true
        · obtain ⟨t, ht, hb⟩ := List.any_eq_true.mp q
          exact ⟨t, ht, way_corner hx hy hb⟩
        · rw [if_neg q] at z; simp at z
    · rintro ⟨t, ht, z⟩
      rcases (way_iff hx hy).mp z with z | z | z
      · exact .inl (List.any_eq_true.mpr ⟨_, (mem_zip1 ht).1, z⟩)
      · exact .inl (List.any_eq_true.mpr ⟨_, (mem_zip1 ht).2, z⟩)
      · exact .inr (.inl (List.any_eq_true.mpr ⟨t, ht, z⟩))
  | area l =>
    show (l.any (inBox a b) = true ∨ ((sides l).any fun w => (sides (boxRing a b)).any fun v => meet w.1 w.2 v.1 v.2) = true ∨ (inRing l a != 0) = true) ↔ touch (sides l) a.x a.y b.x b.y ∨ odd (east ⟨a.x, a.y⟩) (sides l) = true
    rw [inRing_ne]
    constructor
    · rintro (z | z | z | z)
      · obtain ⟨p, hp, hb⟩ := List.any_eq_true.mp z
        obtain ⟨t, ht, e⟩ := in_sides hp
        refine .inl ⟨t, ht, (way_iff hx hy).mpr ?_⟩
        rw [e]; exact .inl hb
      · obtain ⟨t, ht, hb⟩ := List.any_eq_true.mp z
        exact .inl ⟨t, ht, (way_iff hx hy).mpr (.inr (.inr hb))⟩
      · obtain ⟨t, ht, hb⟩ := List.any_eq_true.mp z
        exact .inl ⟨t, ht, way_corner hx hy hb⟩
      · exact .inr z
    · rintro (⟨t, ht, z⟩ | z)
      · rcases (way_iff hx hy).mp z with z | z | z
        · exact .inl (List.any_eq_true.mpr ⟨_, (mem_sides ht).1, z⟩)
        · exact .inl (List.any_eq_true.mpr ⟨_, (mem_sides ht).2, z⟩)
        · exact .inr (.inl (List.any_eq_true.mpr ⟨t, ht, z⟩))
      · exact .inr (.inr (.inr z))
theorem stands_spec {f : Shape} (h : okS f) {a b : Pt} (hx : a.x < b.x) (hy : a.y < b.y) : standsOn f a.x a.y b.x b.y = f.inBox_ a b := by
  rw [Bool.eq_iff_iff, stands_iff h hx hy, spec_iff h hx hy]

/-! ## A box within a box; a box and its quarters -/
theorem St_mono {f : Shape} {w s e n w2 s2 e2 n2 : Int} (hw : w < e) (hs' : s < n) (a1 : w2 ≤ w) (a2 : s2 ≤ s) (a3 : e ≤ e2) (a4 : n ≤ n2) (h : St f w s e n) : St f w2 s2 e2 n2 := by
  cases f with
  | spot p => unfold St inn at h ⊢; simp only at h ⊢; omega
  | line l =>
    obtain ⟨t, ht, q⟩ := h
    exact ⟨t, ht, wt_mono q hw hs' a1 a2 a3 a4⟩
  | area l =>
    rcases h with ⟨t, ht, q⟩ | h
    · exact .inl ⟨t, ht, wt_mono q hw hs' a1 a2 a3 a4⟩
    · by_cases z : touch (sides l) w2 s2 e2 n2
      · exact .inl z
      · refine .inr ?_
        have := odd_box (l := l) (u := ⟨w2, s2⟩) (v := ⟨w, s⟩) (w := w2) (s := s2) (e := e2) (n := n2) (fun t ht q => z ⟨t, ht, q⟩) (by unfold inn; simp only; omega) (by unfold inn; simp only; omega) a2
        rw [← this]; exact h
theorem hs_split {px py qx qy x1 xm x2 y : Int} (h : hs px py qx qy x1 x2 y) : hs px py qx qy x1 xm y ∨ hs px py qx qy xm x2 y := by
  rcases h with h | h | ⟨h, k⟩
  · exact .inl (.inl h)
  · exact .inr (.inr (.inl h))
  · by_cases z : tf px py qx qy xm y = 0
    · have c : cor px py qx qy xm y := by
        refine ⟨z, ?_, by unfold op at k; unfold bt; omega⟩
        have t := tf_t px py qx qy xm y
        unfold bt
        apply Classical.byContradiction
        intro nb
        unfold op at k
        by_cases d : py < y
        · by_cases g : px < xm
          · have := above_e (px := py) (py := px) (qx := qy) (qy := qx) (cx := y) (cy := xm) (by omega) (by omega) (by omega) (by omega)
            omega
          · have := below_e (px := py) (py := px) (qx := qy) (qy := qx) (cx := y) (cy := xm) (by omega) (by omega) (by omega) (by omega)
            omega
        · by_cases g : px < xm
          · have := above_w (px := py) (py := px) (qx := qy) (qy := qx) (cx := y) (cy := xm) (by omega) (by omega) (by omega) (by omega)
            omega
          · have := below_w (px := py) (py := px) (qx := qy) (qy := qx) (cx := y) (cy := xm) (by omega) (by omega) (by omega) (by omega)
            omega
      exact .inl (.inr (.inl c))
    · by_cases o : op (tf px py qx qy x1 y) (tf px py qx qy xm y)
      · exact .inl (.inr (.inr ⟨o, k⟩))
      · exact .inr (.inr (.inr ⟨by unfold op at h o ⊢; omega, k⟩))
theorem cor_t {px py qx qy cx cy : Int} (h : cor px py qx qy cx cy) : cor py px qy qx cy cx := by
  unfold cor at h ⊢
  rw [tf_t]
  exact ⟨by omega, h.2.2, h.2.1⟩
theorem hs_t {px py qx qy x1 x2 y : Int} (h : hs px py qx qy x1 x2 y) : vs py px qy qx y x1 x2 := by
  rcases h with h | h | ⟨h, k⟩
  · exact .inl (cor_t h)
  · exact .inr (.inl (cor_t h))
  · refine .inr (.inr ⟨?_, k⟩)
    rw [tf_t px py qx qy x1 y, tf_t px py qx qy x2 y]
    unfold op at h ⊢; omega
theorem vs_t {px py qx qy x y1 y2 : Int} (h : vs px py qx qy x y1 y2) : hs py px qy qx y1 y2 x := by
  rcases h with h | h | ⟨h, k⟩
  · exact .inl (cor_t h)
  · exact .inr (.inl (cor_t h))
  · refine .inr (.inr ⟨?_, k⟩)
    rw [tf_t px py qx qy x y1, tf_t px py qx qy x y2]
    unfold op at h ⊢; omega
theorem vs_split {px py qx qy x y1 ym y2 : Int} (h : vs px py qx qy x y1 y2) : vs px py qx qy x y1 ym ∨ vs px py qx qy x ym y2 := by
  rcases hs_split (xm := ym) (vs_t h) with z | z
  · exact .inl (hs_t z)
  · exact .inr (hs_t z)
theorem wt_split {px py qx qy x y k : Int} (hk : 0 < k) (h : Wt px py qx qy x y (x + 2 * k) (y + 2 * k)) :
    Wt px py qx qy x (y + k) (x + k) (y + 2 * k) ∨ Wt px py qx qy (x + k) (y + k) (x + 2 * k) (y + 2 * k) ∨ Wt px py qx qy x y (x + k) (y + k) ∨ Wt px py qx qy (x + k) y (x + 2 * k) (y + k) := by
  have pin : ∀ a b, inn a b x y (x + 2 * k) (y + 2 * k) → inn a b x (y + k) (x + k) (y + 2 * k) ∨ inn a b (x + k) (y + k) (x + 2 * k) (y + 2 * k) ∨ inn a b x y (x + k) (y + k) ∨ inn a b (x + k) y (x + 2 * k) (y + k) := fun a b h => by
    unfold inn at h ⊢; omega
  rcases hit_of (by omega) (by omega) h with h | h | h | h | h | h
  · rcases pin _ _ h with z | z | z | z
    · exact .inl (wt_in z)
    · exact .inr (.inl (wt_in z))
    · exact .inr (.inr (.inl (wt_in z)))
    · exact .inr (.inr (.inr (wt_in z)))
  · rcases pin _ _ h with z | z | z | z
    · exact .inl (wt_in2 z)
    · exact .inr (.inl (wt_in2 z))
    · exact .inr (.inr (.inl (wt_in2 z)))
    · exact .inr (.inr (.inr (wt_in2 z)))
  · rcases hs_split (xm := x + k) h with z | z
    · exact .inr (.inr (.inl (wt_hs (by omega) (by omega) (by omega) z)))
    · exact .inr (.inr (.inr (wt_hs (by omega) (by omega) (by omega) z)))
  · rcases hs_split (xm := x + k) h with z | z
    · exact .inl (wt_hs (by omega) (by omega) (by omega) z)
    · exact .inr (.inl (wt_hs (by omega) (by omega) (by omega) z))
  · rcases vs_split (ym := y + k) h with z | z
    · exact .inr (.inr (.inl (wt_vs (by omega) (by omega) (by omega) z)))
    · exact .inl (wt_vs (by omega) (by omega) (by omega) z)
  · rcases vs_split (ym := y + k) h with z | z
    · exact .inr (.inr (.inr (wt_vs (by omega) (by omega) (by omega) z)))
    · exact .inr (.inl (wt_vs (by omega) (by omega) (by omega) z))
theorem touch_split {L : List (Pt × Pt)} {x y k : Int} (hk : 0 < k) (h : touch L x y (x + 2 * k) (y + 2 * k)) :
    touch L x (y + k) (x + k) (y + 2 * k) ∨ touch L (x + k) (y + k) (x + 2 * k) (y + 2 * k) ∨ touch L x y (x + k) (y + k) ∨ touch L (x + k) y (x + 2 * k) (y + k) := by
  obtain ⟨t, ht, q⟩ := h
  rcases wt_split hk q with z | z | z | z
  · exact .inl ⟨t, ht, z⟩
  · exact .inr (.inl ⟨t, ht, z⟩)
  · exact .inr (.inr (.inl ⟨t, ht, z⟩))
  · exact .inr (.inr (.inr ⟨t, ht, z⟩))
theorem St_split {f : Shape} {x y k : Int} (hk : 0 < k) (h : St f x y (x + 2 * k) (y + 2 * k)) :
    St f x (y + k) (x + k) (y + 2 * k) ∨ St f (x + k) (y + k) (x + 2 * k) (y + 2 * k) ∨ St f x y (x + k) (y + k) ∨ St f (x + k) y (x + 2 * k) (y + k) := by
  cases f with
  | spot p => unfold St inn at h ⊢; simp only at h ⊢; omega
  | line l => exact touch_split hk h
  | area l =>
    rcases h with h | h
    · rcases touch_split hk h with z | z | z | z
      · exact .inl (.inl z)
      · exact .inr (.inl (.inl z))
      · exact .inr (.inr (.inl (.inl z)))
      · exact .inr (.inr (.inr (.inl z)))
    · exact .inr (.inr (.inl (.inr h)))

/-! ## Sheets -/
theorem boxOf_app (c : Sheet) (d : Nat) : LsRefs.boxOf (c ++ [d]) = LsRefs.quarter (LsRefs.boxOf c) d := by
  unfold LsRefs.boxOf; rw [List.foldl_append]; rfl
theorem side_fold : ∀ (c : Sheet) (q : LsRefs.Square), (c.foldl LsRefs.quarter q).side = q.side / 2 ^ c.length
  | [], q => by simp
  | d :: c, q => by
    show (c.foldl LsRefs.quarter (LsRefs.quarter q d)).side = _
    rw [side_fold c]
    show q.side / 2 / 2 ^ c.length = q.side / 2 ^ (c.length + 1)
    rw [Nat.div_div_eq_div_mul, Nat.pow_succ, Nat.mul_comm]
theorem side_of (c : Sheet) : (LsRefs.boxOf c).side = 1000000 / 2 ^ c.length := side_fold c _
theorem side_even {c : Sheet} (h : c.length ≤ 5) : (LsRefs.boxOf c).side = 2 * ((LsRefs.boxOf c).side / 2) ∧ 0 < (LsRefs.boxOf c).side / 2 := by
  rw [side_of]
  generalize c.length = n at h
  have : n = 0 ∨ n = 1 ∨ n = 2 ∨ n = 3 ∨ n = 4 ∨ n = 5 := by omega
  rcases this with rfl | rfl | rfl | rfl | rfl | rfl <;> decide
theorem side_pos {c : Sheet} (h : c.length ≤ 6) : 0 < (LsRefs.boxOf c).side := by
  rw [side_of]
  generalize c.length = n at h
  have : n = 0 ∨ n = 1 ∨ n = 2 ∨ n = 3 ∨ n = 4 ∨ n = 5 ∨ n = 6 := by omega
  rcases this with rfl | rfl | rfl | rfl | rfl | rfl | rfl <;> decide
def SS (f : Shape) (c : Sheet) : Prop := let q := LsRefs.boxOf c
  St f q.x q.y ((q.x + q.side : Nat) : Int) ((q.y + q.side : Nat) : Int)
theorem stands_SS {f : LsLand.Feature} (h : okS f.shape) {c : Sheet} (hc : c.length ≤ 6) : stands c f = true ↔ SS f.shape c := by
  have := side_pos hc
  unfold stands
  exact spec_iff h (a := ⟨_, _⟩) (b := ⟨_, _⟩) (by simp only; omega) (by simp only; omega)
/-- the program's ground of a sheet -/
def ground (c : Sheet) : Int × Int × Int × Int := let q := LsRefs.boxOf c
  (q.x, q.y, ((q.x + q.side : Nat) : Int), ((q.y + q.side : Nat) : Int))
theorem standsOn_sheet {f : LsLand.Feature} (h : okS f.shape) {c : Sheet} (hc : c.length ≤ 6) : standsOn f.shape (ground c).1 (ground c).2.1 (ground c).2.2.1 (ground c).2.2.2 = stands c f := by
  have := side_pos hc
  exact stands_spec h (a := ⟨_, _⟩) (b := ⟨_, _⟩) (by simp only [ground]; omega) (by simp only [ground]; omega)
theorem SS_up {f : Shape} {c : Sheet} {d : Nat} (hc : c.length ≤ 5) (hd : d = 1 ∨ d = 2 ∨ d = 3 ∨ d = 4) (h : SS f (c ++ [d])) : SS f c := by
  have ev := side_even hc
  unfold SS at h ⊢
  rw [boxOf_app] at h
  simp only [LsRefs.quarter] at h ⊢
  refine St_mono ?_ ?_ ?_ ?_ ?_ ?_ h <;> rcases hd with rfl | rfl | rfl | rfl <;> simp <;> omega
theorem SS_down {f : Shape} {c : Sheet} (hc : c.length ≤ 5) (h : SS f c) : ∃ d, d ∈ [1, 2, 3, 4] ∧ SS f (c ++ [d]) := by
  have ev := side_even hc
  unfold SS at h
  simp only at h
  have e1 : (((LsRefs.boxOf c).x + (LsRefs.boxOf c).side : Nat) : Int) = (LsRefs.boxOf c).x + 2 * (((LsRefs.boxOf c).side / 2 : Nat) : Int) := by omega
  have e2 : (((LsRefs.boxOf c).y + (LsRefs.boxOf c).side : Nat) : Int) = (LsRefs.boxOf c).y + 2 * (((LsRefs.boxOf c).side / 2 : Nat) : Int) := by omega
  rw [e1, e2] at h
  have k : ∀ d, SS f (c ++ [d]) = St f ((if d = 2 ∨ d = 4 then (LsRefs.boxOf c).x + (LsRefs.boxOf c).side / 2 else (LsRefs.boxOf c).x : Nat) : Int) ((if d = 1 ∨ d = 2 then (LsRefs.boxOf c).y + (LsRefs.boxOf c).side / 2 else (LsRefs.boxOf c).y : Nat) : Int)
      (((if d = 2 ∨ d = 4 then (LsRefs.boxOf c).x + (LsRefs.boxOf c).side / 2 else (LsRefs.boxOf c).x) + (LsRefs.boxOf c).side / 2 : Nat) : Int) (((if d = 1 ∨ d = 2 then (LsRefs.boxOf c).y + (LsRefs.boxOf c).side / 2 else (LsRefs.boxOf c).y) + (LsRefs.boxOf c).side / 2 : Nat) : Int) := fun d => by
    unfold SS; rw [boxOf_app]; rfl
  rcases St_split (by omega) h with z | z | z | z
  · refine ⟨1, by simp, ?_⟩
    rw [k]; simp
    have e3 : ((LsRefs.boxOf c).y : Int) + 2 * (((LsRefs.boxOf c).side / 2 : Nat) : Int) = (LsRefs.boxOf c).y + (((LsRefs.boxOf c).side / 2 : Nat) : Int) + (((LsRefs.boxOf c).side / 2 : Nat) : Int) := by omega
    rw [e3] at z
    exact z
  · refine ⟨2, by simp, ?_⟩
    rw [k]; simp
    have e3 : ((LsRefs.boxOf c).y : Int) + 2 * (((LsRefs.boxOf c).side / 2 : Nat) : Int) = (LsRefs.boxOf c).y + (((LsRefs.boxOf c).side / 2 : Nat) : Int) + (((LsRefs.boxOf c).side / 2 : Nat) : Int) := by omega
    have e4 : ((LsRefs.boxOf c).x : Int) + 2 * (((LsRefs.boxOf c).side / 2 : Nat) : Int) = (LsRefs.boxOf c).x + (((LsRefs.boxOf c).side / 2 : Nat) : Int) + (((LsRefs.boxOf c).side / 2 : Nat) : Int) := by omega
    rw [e3, e4] at z
    exact z
  · refine ⟨3, by simp, ?_⟩
    rw [k]; simp
    exact z
  · refine ⟨4, by simp, ?_⟩
    rw [k]; simp
    have e4 : ((LsRefs.boxOf c).x : Int) + 2 * (((LsRefs.boxOf c).side / 2 : Nat) : Int) = (LsRefs.boxOf c).x + (((LsRefs.boxOf c).side / 2 : Nat) : Int) + (((LsRefs.boxOf c).side / 2 : Nat) : Int) := by omega
    rw [e4] at z
    exact z
/-! the sheets of a series -/
def quarts (f : LsLand.Feature) (c : Sheet) : List Sheet := ([1, 2, 3, 4].map fun d => c ++ [d]).filter fun p => stands p f
def lev (f : LsLand.Feature) : Nat → List Sheet
  | 0 => [[]]
  | k + 1 => (lev f k).flatMap (quarts f)
/-- the program's sheets_of: series from place j on -/
def sheetsFrom (f : LsLand.Feature) : Nat → List Sheet → List Sheet
  | 0, found => found
  | k + 1, found => let finer := found.flatMap (quarts f)
    if finer.length > 64 then finer else sheetsFrom f k finer
def levF (f : LsLand.Feature) : Nat → Sheet → List Sheet
  | 0, c => if stands c f = true then [c] else []
  | k + 1, c => [1, 2, 3, 4].flatMap fun d => levF f k (c ++ [d])
theorem quarts_nil {f : LsLand.Feature} (h : okS f.shape) {c : Sheet} (hc : c.length ≤ 5) (n : ¬ stands c f = true) : quarts f c = [] := by
  unfold quarts
  rw [List.filter_eq_nil_iff]
  intro p hp z
  obtain ⟨d, hd, rfl⟩ := List.mem_map.mp hp
  have hd' : d = 1 ∨ d = 2 ∨ d = 3 ∨ d = 4 := by simpa using hd
  exact n ((stands_SS h (by omega)).mpr (SS_up hc hd' ((stands_SS h (by simp; omega)).mp z)))
theorem quarts_ne {f : LsLand.Feature} (h : okS f.shape) {c : Sheet} (hc : c.length ≤ 5) (n : stands c f = true) : quarts f c ≠ [] := by
  obtain ⟨d, hd, z⟩ := SS_down hc ((stands_SS h (by omega)).mp n)
  intro q
  unfold quarts at q
  rw [List.filter_eq_nil_iff] at q
  exact q (c ++ [d]) (List.mem_map.mpr ⟨d, hd, rfl⟩) ((stands_SS h (by simp; omega)).mpr z)
theorem levF_nil {f : LsLand.Feature} (h : okS f.shape) : ∀ (k : Nat) {c : Sheet}, c.length + k ≤ 6 → ¬ stands c f = true → levF f k c = []
  | 0, c, _, n => if_neg n
  | k + 1, c, hc, n => by
    show [1, 2, 3, 4].flatMap _ = []
    have z : ∀ d, d = 1 ∨ d = 2 ∨ d = 3 ∨ d = 4 → levF f k (c ++ [d]) = [] := fun d hd =>
      levF_nil h k (by simp; omega) fun q => n ((stands_SS h (by omega)).mpr (SS_up (by omega) hd ((stands_SS h (by simp; omega)).mp q)))
    simp only [List.flatMap_cons, List.flatMap_nil]
    rw [z 1 (by simp), z 2 (by simp), z 3 (by simp), z 4 (by simp)]
    rfl
theorem levF_succ {f : LsLand.Feature} (h : okS f.shape) : ∀ (k : Nat) {c : Sheet}, c.length + k ≤ 5 → levF f (k + 1) c = (levF f k c).flatMap (quarts f)
  | 0, c, hc => by
    have e : levF f 1 c = quarts f c := by
      show [1, 2, 3, 4].flatMap (fun d => if stands (c ++ [d]) f = true then [c ++ [d]] else []) = (List.filter _ [c ++ [1], c ++ [2], c ++ [3], c ++ [4]])
      simp only [List.flatMap_cons, List.flatMap_nil, List.filter_cons, List.filter_nil]
      cases stands (c ++ [1]) f <;> cases stands (c ++ [2]) f <;> cases stands (c ++ [3]) f <;> cases stands (c ++ [4]) f <;> rfl
    rw [e]
    show quarts f c = (if stands c f = true then [c] else []).flatMap (quarts f)
    by_cases n : stands c f = true
    · rw [if_pos n]; simp
    · rw [if_neg n, quarts_nil h (by omega) n]; rfl
  | k + 1, c, hc => by
    show [1, 2, 3, 4].flatMap (fun d => levF f (k + 1) (c ++ [d])) = ([1, 2, 3, 4].flatMap fun d => levF f k (c ++ [d])).flatMap (quarts f)
    rw [List.flatMap_assoc]
    congr 1
    funext d
    exact levF_succ h k (by simp; omega)
theorem lev_levF {f : LsLand.Feature} (h : okS f.shape) (h0 : stands [] f = true) : ∀ (k : Nat), k ≤ 6 → lev f k = levF f k []
  | 0, _ => by show [[]] = if stands [] f = true then [[]] else []; rw [if_pos h0]
  | k + 1, hk => by
    show (lev f k).flatMap (quarts f) = _
    rw [lev_levF h h0 k (by omega), levF_succ h k (by simp; omega)]
theorem over_levF {f : LsLand.Feature} (h : okS f.shape) {x0 y0 x1 y1 : Nat} (ov : ∀ c : Sheet, c.length ≤ 6 → stands c f = true → LsRefs.overlaps (LsRefs.boxOf c) x0 y0 x1 y1 = true) :
    ∀ (k : Nat) {c : Sheet}, c.length + k ≤ 6 → (LsRefs.overIn k c x0 y0 x1 y1).filter (fun c => stands c f) = levF f k c
  | 0, c, hc => by
    show (if LsRefs.overlaps (LsRefs.boxOf c) x0 y0 x1 y1 = true then [c] else []).filter _ = if stands c f = true then [c] else []
    by_cases n : stands c f = true
    · rw [if_pos n, if_pos (ov c (by omega) n)]; simp [n]
    · rw [if_neg n]; split <;> simp [n]
  | k + 1, c, hc => by
    show (if LsRefs.overlaps (LsRefs.boxOf c) x0 y0 x1 y1 = true then [1, 2, 3, 4].flatMap (fun (d : Nat) => LsRefs.overIn k (c ++ [d]) x0 y0 x1 y1) else []).filter _ = _
    by_cases o : LsRefs.overlaps (LsRefs.boxOf c) x0 y0 x1 y1 = true
    · rw [if_pos o, List.filter_flatMap]
      show _ = [1, 2, 3, 4].flatMap fun d => levF f k (c ++ [d])
      congr 1
      funext d
      exact over_levF h ov k (by simp; omega)
    · rw [if_neg o, levF_nil h (k + 1) hc (fun n => o (ov c (by omega) n))]; rfl
theorem lev_len {f : LsLand.Feature} {k : Nat} : ∀ c ∈ lev f k, c.length = k ∧ (k = 0 ∨ stands c f = true) := by
  induction k with
  | zero => intro c hc; simp [lev] at hc; subst hc; simp
  | succ k ih =>
    intro c hc
    obtain ⟨b, hb, hq⟩ := List.mem_flatMap.mp hc
    unfold quarts at hq
    rw [List.mem_filter, List.mem_map] at hq
    obtain ⟨⟨d, _, rfl⟩, z⟩ := hq
    exact ⟨by simp [(ih b hb).1], .inr z⟩
theorem flatMap_len {α β : Type} {g : α → List β} : ∀ {l : List α}, (∀ a ∈ l, g a ≠ []) → l.length ≤ (l.flatMap g).length
  | [], _ => Nat.le_refl _
  | a :: l, h => by
    have i := flatMap_len (l := l) fun b hb => h b (List.mem_cons_of_mem _ hb)
    have p := List.length_pos_iff.mpr (h a List.mem_cons_self)
    rw [List.flatMap_cons, List.length_append, List.length_cons]; omega
theorem lev_grow {f : LsLand.Feature} (h : okS f.shape) (h0 : stands [] f = true) {k : Nat} (hk : k ≤ 5) : (lev f k).length ≤ (lev f (k + 1)).length := by
  refine flatMap_len fun c hc => ?_
  have l := lev_len c hc
  refine quarts_ne h (by omega) ?_
  rcases l.2 with z | z
  · subst z
    have : c = [] := List.length_eq_zero_iff.mp l.1
    rw [this]; exact h0
  · exact z
theorem lev_grows {f : LsLand.Feature} (h : okS f.shape) (h0 : stands [] f = true) {k : Nat} : ∀ (j : Nat), k + j ≤ 6 → (lev f k).length ≤ (lev f (k + j)).length
  | 0, _ => Nat.le_refl _
  | j + 1, hk => Nat.le_trans (lev_grows h h0 j (by omega)) (lev_grow h h0 (k := k + j) (by omega))
theorem sheetsFrom_lev {f : LsLand.Feature} (h : okS f.shape) (h0 : stands [] f = true) : ∀ (j k : Nat), k + j ≤ 6 →
    ((sheetsFrom f j (lev f k)).length > 64 ∧ (lev f (k + j)).length > 64) ∨ sheetsFrom f j (lev f k) = lev f (k + j)
  | 0, k, _ => .inr rfl
  | j + 1, k, hk => by
    show ((if (lev f (k + 1)).length > 64 then lev f (k + 1) else sheetsFrom f j (lev f (k + 1))).length > 64 ∧ _) ∨ (if (lev f (k + 1)).length > 64 then lev f (k + 1) else sheetsFrom f j (lev f (k + 1))) = _
    by_cases c : (lev f (k + 1)).length > 64
    · rw [if_pos c]
      left
      have := lev_grows h h0 (k := k + 1) j (by omega)
      have e : k + 1 + j = k + (j + 1) := by omega
      rw [e] at this
      exact ⟨c, by omega⟩
    · rw [if_neg c]
      have e : k + 1 + j = k + (j + 1) := by omega
      have := sheetsFrom_lev h h0 j (k + 1) (by omega)
      rw [e] at this
      exact this
/-- **the program's list of sheets against the specification's** -/
theorem sheets_eq {f : LsLand.Feature} (h : okS f.shape) (hb : ∀ p ∈ f.shape.places, inB p) {k : Nat} (hk : k ≤ 6) :
    let q := LsBook.boxOf f.shape
    let cs := (LsRefs.over k (q.1.toNat - 1) (q.2.1.toNat - 1) (min 999999 q.2.2.1.toNat) (min 999999 q.2.2.2.toNat)).filter fun (c : Sheet) => stands c f
    ((sheetsFrom f k [[]]).length > 64 ∧ cs.length > 64) ∨ sheetsFrom f k [[]] = cs := by
  have ne := places_ne h
  have h0 : stands [] f = true := by
    rw [stands_SS h (by simp)]
    obtain ⟨p, hp⟩ := List.exists_mem_of_ne_nil _ ne
    refine (stands_iff h (by decide) (by decide)).mp ?_
    -- the whole land has all places
    have := hb p hp
    refine (stands_iff h (by decide) (by decide)).mpr ?_
    cases e : f.shape with
    | spot r =>
      rw [e] at hp
      simp [Shape.places] at hp
      subst hp
      unfold St inn inB at *
      show (((LsRefs.boxOf []).x : Int) ≤ p.x ∧ _)
      simp only [LsRefs.boxOf, List.foldl_nil, LsRefs.LAND]; omega
    | line l =>
      rw [e] at hp h
      obtain ⟨t, ht, z⟩ := in_zip1 (l := l) hp h
      refine ⟨t, ht, ?_⟩
      rcases z with z | z
      · rw [z]; refine wt_in ?_; unfold inB at this; unfold inn; simp only [LsRefs.boxOf, List.foldl_nil, LsRefs.LAND]; omega
      · rw [z]; refine wt_in2 ?_; unfold inB at this; unfold inn; simp only [LsRefs.boxOf, List.foldl_nil, LsRefs.LAND]; omega
    | area l =>
      rw [e] at hp
      obtain ⟨t, ht, z⟩ := in_sides (l := l) hp
      refine .inl ⟨t, ht, ?_⟩
      rw [z]; refine wt_in ?_; unfold inB at this; unfold inn; simp only [LsRefs.boxOf, List.foldl_nil, LsRefs.LAND]; omega
  intro q cs
  have e : cs = lev f k := by
    rw [lev_levF h h0 k hk]
    refine over_levF h (fun c hc st => ?_) k (by simpa using hk)
    -- it stands there: the boxes overlap
    have sp := side_pos hc
    have st2 := (stands_SS h hc).mp st
    have st3 := (stands_iff h (by omega) (by omega)).mpr st2
    unfold standsOn at st3
    have ap : ¬ apartB f.shape (LsRefs.boxOf c).x (LsRefs.boxOf c).y (((LsRefs.boxOf c).x + (LsRefs.boxOf c).side : Nat) : Int) (((LsRefs.boxOf c).y + (LsRefs.boxOf c).side : Nat) : Int) = true := fun z => by
      rw [if_pos z] at st3; cases st3
    have b : ∀ p ∈ f.shape.places, 0 ≤ p.x ∧ p.x ≤ 999999 ∧ 0 ≤ p.y ∧ p.y ≤ 999999 := hb
    have nx : (f.shape.places.map fun (p : Pt) => p.x) ≠ [] := fun z => ne (List.map_eq_nil_iff.mp z)
    have ny : (f.shape.places.map fun (p : Pt) => p.y) ≠ [] := fun z => ne (List.map_eq_nil_iff.mp z)
    have q1 : -1 < q.1 := (least_lt nx (-1)).mpr (by simp only [List.forall_mem_map]; intro p hp; have := b p hp; omega)
    have q2 : -1 < q.2.1 := (least_lt ny (-1)).mpr (by simp only [List.forall_mem_map]; intro p hp; have := b p hp; omega)
    have q3 : q.2.2.1 < 1000000 := (most_lt nx 1000000).mpr (by simp only [List.forall_mem_map]; intro p hp; have := b p hp; omega)
    have q4 : q.2.2.2 < 1000000 := (most_lt ny 1000000).mpr (by simp only [List.forall_mem_map]; intro p hp; have := b p hp; omega)
    unfold apartB at ap
    simp only at ap
    have ap' : ¬ ((q.1 > (((LsRefs.boxOf c).x + (LsRefs.boxOf c).side : Nat) : Int)) ∨ q.2.2.1 < ((LsRefs.boxOf c).x : Int)) ∧ ¬ (q.2.1 > (((LsRefs.boxOf c).y + (LsRefs.boxOf c).side : Nat) : Int)) ∧ ¬ (q.2.2.2 < ((LsRefs.boxOf c).y : Int)) := by
      by_cases z : (q.1 > (((LsRefs.boxOf c).x + (LsRefs.boxOf c).side : Nat) : Int)) ∨ q.2.2.1 < ((LsRefs.boxOf c).x : Int)
      · exact absurd (if_pos z) ap
      · rw [if_neg z] at ap
        simp only [Bool.or_eq_true, decide_eq_true_eq, not_or] at ap
        exact ⟨z, ap.1, ap.2⟩
    unfold LsRefs.overlaps
    simp only [Bool.and_eq_true, decide_eq_true_eq]
    omega
  rw [e]
  have := sheetsFrom_lev h h0 k 0 (by omega)
  rw [Nat.zero_add] at this
  exact this
end Ge
end
/-! ### WData -/
section
set_option Elab.async false
set_option linter.all false
set_option maxRecDepth 100000
set_option maxHeartbeats 2000000
namespace PySem
theorem Paired.monoP {α β : Type} {F G : α → β → Prop} : ∀ {as : List α} {bs : List β}, Paired F as bs → (∀ a b, F a b → G a b) → Paired G as bs
  | _, _, .nil, _ => .nil
  | _, _, .cons h r, k => .cons (k _ _ h) (Paired.monoP r k)
theorem Paired.get {α β : Type} {F : α → β → Prop} : ∀ {as : List α} {bs : List β} {i : Nat} {a : α}, Paired F as bs → as[i]? = some a → ∃ b, bs[i]? = some b ∧ F a b
  | _, _, i, a, .nil, h => by simp at h
  | _, _, 0, a, .cons h r, e => by simp at e; subst e; exact ⟨_, rfl, h⟩
  | _, _, i + 1, a, .cons h r, e => by
    obtain ⟨b, h1, h2⟩ := Paired.get (i := i) (a := a) r (by simpa using e)
    exact ⟨b, by simpa using h1, h2⟩
theorem Paired.get2 {α β : Type} {F : α → β → Prop} : ∀ {as : List α} {bs : List β} {i : Nat} {b : β}, Paired F as bs → bs[i]? = some b → ∃ a, as[i]? = some a ∧ F a b
  | _, _, i, a, .nil, h => by simp at h
  | _, _, 0, a, .cons h r, e => by simp at e; subst e; exact ⟨_, rfl, h⟩
  | _, _, i + 1, a, .cons h r, e => by
    obtain ⟨b, h1, h2⟩ := Paired.get2 (i := i) (b := a) r (by simpa using e)
    exact ⟨b, by simpa using h1, h2⟩
theorem Paired.len {α β : Type} {F : α → β → Prop} {as : List α} {bs : List β} (h : Paired F as bs) : as.length = bs.length := Paired.length h
theorem Paired.app {α β : Type} {F : α → β → Prop} : ∀ {as as' : List α} {bs bs' : List β}, Paired F as bs → Paired F as' bs' → Paired F (as ++ as') (bs ++ bs')
  | _, _, _, _, .nil, s => s
  | _, _, _, _, .cons h r, s => .cons h (Paired.app r s)
theorem Paired.tk {α β : Type} {F : α → β → Prop} : ∀ {as : List α} {bs : List β} (n : Nat), Paired F as bs → Paired F (as.take n) (bs.take n)
  | _, _, 0, _ => .nil
  | _, _, _ + 1, .nil => .nil
  | _, _, n + 1, .cons h r => .cons h (Paired.tk n r)
theorem Paired.dp {α β : Type} {F : α → β → Prop} : ∀ {as : List α} {bs : List β} (n : Nat), Paired F as bs → Paired F (as.drop n) (bs.drop n)
  | _, _, 0, h => h
  | _, _, _ + 1, .nil => .nil
  | _, _, n + 1, .cons _ r => Paired.dp n r
theorem Paired.rev {α β : Type} {F : α → β → Prop} : ∀ {as : List α} {bs : List β}, Paired F as bs → Paired F as.reverse bs.reverse
  | _, _, .nil => .nil
  | _, _, .cons h r => by
    rw [List.reverse_cons, List.reverse_cons]; exact Paired.app (Paired.rev r) (.cons h .nil)
end PySem
namespace Wk
open PySem PySem.Spec PyProof.Rows L2
open LsGeo (Pt)
/-! What stands in the heap for places, ways, features. -/
def PtAt (H : Hp) (a : Addr) (p : Pt) : Prop := H a = some (.tup [.int p.x, .int p.y])
def PtsAt (H : Hp) (a : Addr) (ps : List Pt) : Prop := ∃ as : List Addr, H a = some (.lst (as.map V.ref)) ∧ Paired (PtAt H) as ps
def WayAt (H : Hp) (a : Addr) (w : Pt × Pt) : Prop := ∃ p q : Addr, H a = some (.tup [.ref p, .ref q]) ∧ PtAt H p w.1 ∧ PtAt H q w.2
def WaysAt (H : Hp) (a : Addr) (ws : List (Pt × Pt)) : Prop := ∃ as : List Addr, H a = some (.lst (as.map V.ref)) ∧ Paired (WayAt H) as ws
theorem PtAt.mono {H H' : Hp} {a : Addr} {p : Pt} (e : Same H H') (h : PtAt H a p) : PtAt H' a p := e _ _ h
theorem PtsAt.mono {H H' : Hp} {a : Addr} {ps : List Pt} (e : Same H H') (h : PtsAt H a ps) : PtsAt H' a ps := by
  obtain ⟨as, h1, h2⟩ := h
  exact ⟨as, e _ _ h1, h2.monoP fun _ _ q => q.mono e⟩
theorem WayAt.mono {H H' : Hp} {a : Addr} {w : Pt × Pt} (e : Same H H') (h : WayAt H a w) : WayAt H' a w := by
  obtain ⟨p, q, h1, h2, h3⟩ := h
  exact ⟨p, q, e _ _ h1, h2.mono e, h3.mono e⟩
theorem WaysAt.mono {H H' : Hp} {a : Addr} {ps : List (Pt × Pt)} (e : Same H H') (h : WaysAt H a ps) : WaysAt H' a ps := by
  obtain ⟨as, h1, h2⟩ := h
  exact ⟨as, e _ _ h1, h2.monoP fun _ _ q => q.mono e⟩
/-- within what the land and its sheets have -/
def bp (p : Pt) : Prop := 0 ≤ p.x ∧ p.x ≤ 1000000 ∧ 0 ≤ p.y ∧ p.y ≤ 1000000
def RPts (ps : List Pt) : RR := fun v H => ∃ a, v = .ref a ∧ PtsAt H a ps
def RWays (ws : List (Pt × Pt)) : RR := fun v H => ∃ a, v = .ref a ∧ WaysAt H a ws
def RPt (p : Pt) : RR := fun v H => ∃ a, v = .ref a ∧ PtAt H a p
def RWay (w : Pt × Pt) : RR := fun v H => ∃ a, v = .ref a ∧ WayAt H a w
instance (p : Pt) : Mono (RPt p) := ⟨fun e ⟨a, h1, h2⟩ => ⟨a, h1, h2.mono e⟩⟩
instance (p : Pt × Pt) : Mono (RWay p) := ⟨fun e ⟨a, h1, h2⟩ => ⟨a, h1, h2.mono e⟩⟩
instance (ps : List Pt) : Mono (RPts ps) := ⟨fun e ⟨a, h1, h2⟩ => ⟨a, h1, h2.mono e⟩⟩
instance (ps : List (Pt × Pt)) : Mono (RWays ps) := ⟨fun e ⟨a, h1, h2⟩ => ⟨a, h1, h2.mono e⟩⟩
theorem at1 {x y : V} {r : List V} : atI (x :: y :: r) 1 = some y := atI_nat (j := 1) rfl
theorem at2 {x y z : V} {r : List V} : atI (x :: y :: z :: r) 2 = some z := atI_nat (j := 2) rfl
theorem at3 {x y z u : V} {r : List V} : atI (x :: y :: z :: u :: r) 3 = some u := atI_nat (j := 3) rfl
section
variable {K : PySem.W.Frag} {σ : L2.St} {H : Hp} {ta tb : TE}
theorem e_ixT0 {p : Addr} {x : V} {r : List V} (ha : EvP ta σ H (isV (.ref p))) (h : H p = some (.tup (x :: r))) : EvP (tOp (rIxT K) ta (tC (.int 0))) σ H (isV x) := e_ixT ha ev_c h at0
theorem e_ixT1 {p : Addr} {x y : V} {r : List V} (ha : EvP ta σ H (isV (.ref p))) (h : H p = some (.tup (x :: y :: r))) : EvP (tOp (rIxT K) ta (tC (.int 1))) σ H (isV y) := e_ixT ha ev_c h at1
theorem e_ixT2 {p : Addr} {x y z : V} {r : List V} (ha : EvP ta σ H (isV (.ref p))) (h : H p = some (.tup (x :: y :: z :: r))) : EvP (tOp (rIxT K) ta (tC (.int 2))) σ H (isV z) := e_ixT ha ev_c h at2
theorem e_ixT3 {p : Addr} {x y z u : V} {r : List V} (ha : EvP ta σ H (isV (.ref p))) (h : H p = some (.tup (x :: y :: z :: u :: r))) : EvP (tOp (rIxT K) ta (tC (.int 3))) σ H (isV u) := e_ixT ha ev_c h at3
theorem e_chainLe {tc : TE} {i j k : Int} (ha : EvP ta σ H (isV (.int i))) (hb : EvP tb σ H (isV (.int j))) (hc : EvP tc σ H (isV (.int k))) : EvP (tChain (rI0 fun i j => .bl (decide (i ≤ j))) (rI0 fun i j => .bl (decide (i ≤ j))) ta tb tc) σ H (isV (.bl (decide (i ≤ j) && decide (j ≤ k)))) :=
  e_chain ha hb (rv_I0 (i := i) (j := j)) (fun _ => hc) fun _ => rv_I0 (i := j) (j := k)
theorem e_chainLt {tc : TE} {i j k : Int} (ha : EvP ta σ H (isV (.int i))) (hb : EvP tb σ H (isV (.int j))) (hc : EvP tc σ H (isV (.int k))) : EvP (tChain (rI0 fun i j => .bl (decide (i < j))) (rI0 fun i j => .bl (decide (i < j))) ta tb tc) σ H (isV (.bl (decide (i < j) && decide (j < k)))) :=
  e_chain ha hb (rv_I0 (i := i) (j := j)) (fun _ => hc) fun _ => rv_I0 (i := j) (j := k)
theorem e_max2 {i j : Int} (ha : EvP ta σ H (isV (.int i))) (hb : EvP tb σ H (isV (.int j))) : EvP (tCB (fun xs H Q => ∃ i j, xs = [.int i, .int j] ∧ Q (.int (if j > i then j else i)) H) (tCons ta (tCons tb tNil))) σ H (isV (.int (max i j))) := by
  refine e_cb (ea_cons ha (ea_cons hb ea_nil)) fun vs H1 e hv Q q => ?_
  cases hv
  refine ⟨i, j, rfl, q _ H1 (Same.refl _) ?_⟩
  show V.int _ = V.int _
  congr 1
  split <;> omega
theorem e_min2 {i j : Int} (ha : EvP ta σ H (isV (.int i))) (hb : EvP tb σ H (isV (.int j))) : EvP (tCB (fun xs H Q => ∃ i j, xs = [.int i, .int j] ∧ Q (.int (if j < i then j else i)) H) (tCons ta (tCons tb tNil))) σ H (isV (.int (min i j))) := by
  refine e_cb (ea_cons ha (ea_cons hb ea_nil)) fun vs H1 e hv Q q => ?_
  cases hv
  refine ⟨i, j, rfl, q _ H1 (Same.refl _) ?_⟩
  show V.int _ = V.int _
  congr 1
  split <;> omega
end
end Wk
end
/-! ### WSh1 -/
section
set_option Elab.async false
set_option linter.all false
set_option maxRecDepth 100000
set_option maxHeartbeats 2000000
namespace Wk
open PySem PySem.Spec PyProof.Rows L2
open LsGeo (Pt)
local macro_rules | `(tactic| trivial) => `(tactic| (refine e_mul ?_ ?_ ?_ <;> first | (unfold CMul; omega) | trivial))
local macro_rules | `(tactic| trivial) => `(tactic| (refine e_sub ?_ ?_ <;> trivial))
local macro_rules | `(tactic| trivial) => `(tactic| (refine e_add ?_ ?_ <;> trivial))
local macro_rules | `(tactic| trivial) => `(tactic| (refine e_lt ?_ ?_ <;> trivial))
local macro_rules | `(tactic| trivial) => `(tactic| (refine e_le ?_ ?_ <;> trivial))
local macro_rules | `(tactic| trivial) => `(tactic| (refine e_max2 ?_ ?_ <;> trivial))
local macro_rules | `(tactic| trivial) => `(tactic| (refine e_min2 ?_ ?_ <;> trivial))
local macro_rules | `(tactic| trivial) => `(tactic| exact e_ixT3 (ev_var rfl) (by assumption))
local macro_rules | `(tactic| trivial) => `(tactic| exact e_ixT2 (ev_var rfl) (by assumption))
local macro_rules | `(tactic| trivial) => `(tactic| exact e_ixT1 (ev_var rfl) (by assumption))
local macro_rules | `(tactic| trivial) => `(tactic| exact e_ixT0 (ev_var rfl) (by assumption))
local macro_rules | `(tactic| trivial) => `(tactic| exact ev_c)
local macro_rules | `(tactic| trivial) => `(tactic| exact ev_var rfl)
section
variable {P : Program} {w : World} {K : PySem.W.Frag} {mg : Str → Option Value} {base : Heap} {A : Ad}
/-- three places -/
def sg3 (g : Pt → Pt → Pt → V) : List V → Hp → RR → Prop := fun vs H R => ∃ a b c p q r, vs = [.ref a, .ref b, .ref c] ∧ PtAt H a p ∧ PtAt H b q ∧ PtAt H c r ∧ bp p ∧ bp q ∧ bp r ∧ R = isV (g p q r)
def sg4 (g : Pt → Pt → Pt → Pt → V) : List V → Hp → RR → Prop := fun vs H R => ∃ a b c d p q r t, vs = [.ref a, .ref b, .ref c, .ref d] ∧ PtAt H a p ∧ PtAt H b q ∧ PtAt H c r ∧ PtAt H d t ∧ bp p ∧ bp q ∧ bp r ∧ bp t ∧ R = isV (g p q r t)
def inBoxP (p q r : Pt) : Bool := decide (min p.x q.x ≤ r.x ∧ r.x ≤ max p.x q.x) && decide (min p.y q.y ≤ r.y ∧ r.y ≤ max p.y q.y)
def partedP (p q r t : Pt) : Bool := (decide (LsGeo.turn p q r < 0) && decide (0 < LsGeo.turn p q t)) || (decide (LsGeo.turn p q t < 0) && decide (0 < LsGeo.turn p q r))
def sp_turn (K : PySem.W.Frag) (A : Ad) : Sp := pure (sg3 fun p q r => .int (LsGeo.turn p q r))
def sp_in_box (K : PySem.W.Frag) (A : Ad) : Sp := pure (sg3 fun p q r => .bl (inBoxP p q r))
def sp_on_way (K : PySem.W.Frag) (A : Ad) : Sp := pure (sg3 fun p q r => .bl (LsGeo.onSide r p q))
def sp_parted (K : PySem.W.Frag) (A : Ad) : Sp := pure (sg4 fun p q r t => .bl (partedP p q r t))
def sp_ways_meet (K : PySem.W.Frag) (A : Ad) : Sp := pure (sg4 fun p q r t => .bl (LsGeo.meet p q r t))
def sp_goes_back (K : PySem.W.Frag) (A : Ad) : Sp := pure (sg3 fun p q r => .bl (Ge.goesBack p q r))
theorem inBoxP_on (p q r : Pt) : LsGeo.onSide r p q = (decide (LsGeo.turn p q r = 0) && inBoxP p q r) := by
  rw [Bool.eq_iff_iff]
  unfold LsGeo.onSide inBoxP
  simp only [Bool.and_eq_true, decide_eq_true_eq, beq_iff_eq]
  constructor
  · rintro ⟨h, h1, h2, h3, h4⟩; exact ⟨h, ⟨h1, h2⟩, h3, h4⟩
  · rintro ⟨h, ⟨h1, h2⟩, h3, h4⟩; exact ⟨h, h1, h2, h3, h4⟩
theorem meetP (a b c d : Pt) : LsGeo.meet a b c d = ((partedP a b c d && partedP c d a b) || (LsGeo.onSide c a b || (LsGeo.onSide d a b || (LsGeo.onSide a c d || LsGeo.onSide b c d)))) := by
  rw [Bool.eq_iff_iff]
  unfold LsGeo.meet partedP
  simp only [Bool.or_eq_true, Bool.and_eq_true, decide_eq_true_eq]
  constructor
  · rintro (⟨h1, h2⟩ | h)
    · exact .inl ⟨by omega, by omega⟩
    · exact .inr h
  · rintro (⟨h1, h2⟩ | h)
    · exact .inl ⟨by omega, by omega⟩
    · exact .inr h
theorem ok_turn (T : Txt K mg A)  {f : Addr} {fd : FuncData} (F : C8.Def K mg "turn" s_turn f fd) (bb : Binds K fd ["p", "q", "r"] []) : C8.Cal P w K mg base 1 "turn" (sp_turn K A) [] := by
  refine C8.cal0 F bb .nil sc_turn (fun vs H Q E h => ?_) (fun cdv Ar outer s H vs Q E hr h => ?_)
  · obtain ⟨R, ⟨a, b, c, p, q, r, rfl, _⟩, _⟩ := h
    rfl
  · obtain ⟨R, ⟨a, b, c, p, q, r, rfl, ha, hb, hc, bpp, bq, br, rfl⟩, k⟩ := h
    unfold PtAt at ha hb hc
    unfold bp at bpp bq br
    refine ⟨_, (pss_one (ps_ret (pe_op op_sub (pe_op op_mul (pe_op op_sub (pe_ix ix_tup (pv 1) pe_int (fun _ _ => rfl)) (pe_ix ix_tup (pv 0) pe_int (fun _ _ => rfl))) (pe_op op_sub (pe_ix ix_tup (pv 2) pe_int (fun _ _ => rfl)) (pe_ix ix_tup (pv 0) pe_int (fun _ _ => rfl)))) (pe_op op_mul (pe_op op_sub (pe_ix ix_tup (pv 1) pe_int (fun _ _ => rfl)) (pe_ix ix_tup (pv 0) pe_int (fun _ _ => rfl))) (pe_op op_sub (pe_ix ix_tup (pv 2) pe_int (fun _ _ => rfl)) (pe_ix ix_tup (pv 0) pe_int (fun _ _ => rfl))))))), body (s_ret (Same.refl _) ?_) k⟩
    refine EvP.is (x := .int ((q.x - p.x) * (r.y - p.y) - (q.y - p.y) * (r.x - p.x))) ?_ rfl
    trivial
theorem ok_in_box (T : Txt K mg A)  {f : Addr} {fd : FuncData} (F : C8.Def K mg "in_box" s_in_box f fd) (bb : Binds K fd ["p", "q", "r"] []) : C8.Cal P w K mg base 1 "in_box" (sp_in_box K A) [] := by
  refine C8.cal0 F bb .nil sc_in_box (fun vs H Q E h => ?_) (fun cdv Ar outer s H vs Q E hr h => ?_)
  · obtain ⟨R, ⟨a, b, c, p, q, r, rfl, _⟩, _⟩ := h
    rfl
  · obtain ⟨R, ⟨a, b, c, p, q, r, rfl, ha, hb, hc, bpp, bq, br, rfl⟩, k⟩ := h
    unfold PtAt at ha hb hc
    refine ⟨_, (pss_cons (ps_if (pt_not (pt_chain op_le op_le (pe_callB (call_min2 rfl) (by rfl) T.min (by decide +kernel) (pa_cons (pe_ix ix_tup (pv 0) pe_int (fun _ _ => rfl)) (pa_cons (pe_ix ix_tup (pv 1) pe_int (fun _ _ => rfl)) pa_nil))) (pe_ix ix_tup (pv 2) pe_int (fun _ _ => rfl)) (pe_callB (call_max2 rfl) (by rfl) T.max (by decide +kernel) (pa_cons (pe_ix ix_tup (pv 0) pe_int (fun _ _ => rfl)) (pa_cons (pe_ix ix_tup (pv 1) pe_int (fun _ _ => rfl)) pa_nil))))) (pss_one (ps_ret pe_bl)) pss_nil) (pss_one (ps_ret (pe_chain op_le op_le (pe_callB (call_min2 rfl) (by rfl) T.min (by decide +kernel) (pa_cons (pe_ix ix_tup (pv 0) pe_int (fun _ _ => rfl)) (pa_cons (pe_ix ix_tup (pv 1) pe_int (fun _ _ => rfl)) pa_nil))) (pe_ix ix_tup (pv 2) pe_int (fun _ _ => rfl)) (pe_callB (call_max2 rfl) (by rfl) T.max (by decide +kernel) (pa_cons (pe_ix ix_tup (pv 0) pe_int (fun _ _ => rfl)) (pa_cons (pe_ix ix_tup (pv 1) pe_int (fun _ _ => rfl)) pa_nil))))))), body (s_when (b := !(decide (min p.x q.x ≤ r.x) && decide (r.x ≤ max p.x q.x))) (et_not (et_test (e_chainLe (i := min p.x q.x) (j := r.x) (k := max p.x q.x) ?_ ?_ ?_))) (fun h1 => s_ret (Same.refl _) ?_) fun h1 => s_ret (Same.refl _) ?_) k⟩
    · trivial
    · trivial
    · trivial
    · refine ev_c.is ?_
      congr 1
      unfold inBoxP
      simp only [Bool.not_eq_true', Bool.and_eq_false_iff, decide_eq_false_iff_not] at h1
      symm
      simp only [Bool.and_eq_false_iff, decide_eq_false_iff_not]
      omega
    · refine EvP.is (e_chainLe (i := min p.y q.y) (j := r.y) (k := max p.y q.y) ?_ ?_ ?_) ?_
      · trivial
      · trivial
      · trivial
      · congr 1
        unfold inBoxP
        simp only [Bool.not_eq_false', Bool.and_eq_true, decide_eq_true_eq] at h1
        rw [decide_eq_true (show min p.x q.x ≤ r.x ∧ r.x ≤ max p.x q.x from h1), Bool.true_and]
        rw [Bool.eq_iff_iff]
        simp
theorem ok_on_way (T : Txt K mg A) (c_in_box : C8.Cal P w K mg base 1 "in_box" (sp_in_box K A) []) (c_turn : C8.Cal P w K mg base 1 "turn" (sp_turn K A) []) {f : Addr} {fd : FuncData} (F : C8.Def K mg "on_way" s_on_way f fd) (bb : Binds K fd ["p", "q", "r"] []) : C8.Cal P w K mg base 2 "on_way" (sp_on_way K A) [] := by
  refine C8.cal0 F bb .nil sc_on_way (fun vs H Q E h => ?_) (fun cdv Ar outer s H vs Q E hr h => ?_)
  · obtain ⟨R, ⟨a, b, c, p, q, r, rfl, _⟩, _⟩ := h
    rfl
  · obtain ⟨R, ⟨a, b, c, p, q, r, rfl, ha, hb, hc, bpp, bq, br, rfl⟩, k⟩ := h
    refine ⟨_, (pss_one (ps_ret (pe_and (pe_cmpR op_eq (C8.pe_c c_turn hr (by decide) rfl (pa_cons (pv 0) (pa_cons (pv 1) (pa_cons (pv 2) pa_nil)))) pe_int (nomark _)) (pe_one (C8.pe_c c_in_box hr (by decide) rfl (pa_cons (pv 0) (pa_cons (pv 1) (pa_cons (pv 2) pa_nil)))))))), body (s_ret (Same.refl _) ?_) k⟩
    show EvP _ _ H (isV (.bl (LsGeo.onSide r p q)))
    rw [inBoxP_on]
    have vars : EvA (tCons (tVar 0) (tCons (tVar 1) (tCons (tVar 2) tNil))) (start N_on_way [V.ref a, V.ref b, V.ref c]) H (isA [.ref a, .ref b, .ref c]) := ea_cons (ev_var rfl) (ea_cons (ev_var rfl) (ea_cons (ev_var rfl) ea_nil))
    refine e_andV (e_eq (e_callV vars fun H1 e => ?_) ev_c) (fun _ => e_callV vars fun H1 e => ?_)
    · exact ⟨a, b, c, p, q, r, rfl, ha.mono e, hb.mono e, hc.mono e, bpp, bq, br, rfl⟩
    · exact ⟨a, b, c, p, q, r, rfl, ha.mono e, hb.mono e, hc.mono e, bpp, bq, br, rfl⟩
theorem ok_parted (T : Txt K mg A) (c_turn : C8.Cal P w K mg base 1 "turn" (sp_turn K A) []) {f : Addr} {fd : FuncData} (F : C8.Def K mg "parted" s_parted f fd) (bb : Binds K fd ["p", "q", "r", "s"] []) : C8.Cal P w K mg base 2 "parted" (sp_parted K A) [] := by
  refine C8.cal0 F bb .nil sc_parted (fun vs H Q E h => ?_) (fun cdv Ar outer s H vs Q E hr h => ?_)
  · obtain ⟨R, ⟨a, b, c, d, p, q, r, t, rfl, _⟩, _⟩ := h
    rfl
  · obtain ⟨R, ⟨a, b, c, d, p, q, r, t, rfl, ha, hb, hc, hd, bpp, bq, br, bt, rfl⟩, k⟩ := h
    refine ⟨_, (pss_cons (ps_set (i := 4) sc_parted.nd rfl (Or.inl rfl) (C8.pe_c c_turn hr (by decide) rfl (pa_cons (pv 0) (pa_cons (pv 1) (pa_cons (pv 2) pa_nil))))) (pss_cons (ps_set (i := 5) sc_parted.nd rfl (Or.inl rfl) (C8.pe_c c_turn hr (by decide) rfl (pa_cons (pv 0) (pa_cons (pv 1) (pa_cons (pv 3) pa_nil))))) (pss_one (ps_ret (pe_or (pe_chain op_lt op_lt (pv 4) pe_int (pv 5)) (pe_one (pe_chain op_lt op_lt (pv 5) pe_int (pv 4)))))))), body (s_set (e_callV (ea_cons (ev_var rfl) (ea_cons (ev_var rfl) (ea_cons (ev_var rfl) ea_nil))) fun H1 e => ⟨a, b, c, p, q, r, rfl, ha.mono e, hb.mono e, hc.mono e, bpp, bq, br, rfl⟩) fun v H1 e1 hv => ?_) k⟩
    cases hv
    refine s_set (e_callV (ea_cons (ev_var rfl) (ea_cons (ev_var rfl) (ea_cons (ev_var rfl) ea_nil))) fun H2 e => ⟨a, b, d, p, q, t, rfl, (ha.mono e1).mono e, (hb.mono e1).mono e, (hd.mono e1).mono e, bpp, bq, bt, rfl⟩) fun v H2 e2 hv => ?_
    cases hv
    refine s_ret (e1.trans e2) (e_orV (e_chainLt (ev_var rfl) ev_c (ev_var rfl)) fun _ => e_chainLt (ev_var rfl) ev_c (ev_var rfl))
theorem ok_ways_meet (T : Txt K mg A) (c_on_way : C8.Cal P w K mg base 2 "on_way" (sp_on_way K A) []) (c_parted : C8.Cal P w K mg base 2 "parted" (sp_parted K A) []) {f : Addr} {fd : FuncData} (F : C8.Def K mg "ways_meet" s_ways_meet f fd) (bb : Binds K fd ["a", "b", "c", "d"] []) : C8.Cal P w K mg base 3 "ways_meet" (sp_ways_meet K A) [] := by
  refine C8.cal0 F bb .nil sc_ways_meet (fun vs H Q E h => ?_) (fun cdv Ar outer s H vs Q E hr h => ?_)
  · obtain ⟨R, ⟨a, b, c, d, p, q, r, t, rfl, _⟩, _⟩ := h
    rfl
  · obtain ⟨R, ⟨a, b, c, d, p, q, r, t, rfl, ha, hb, hc, hd, bpp, bq, br, bt, rfl⟩, k⟩ := h
    refine ⟨_, (pss_cons (ps_if (PW.pt (pw_and (pt_val (C8.pe_c c_parted hr (by decide) rfl (pa_cons (pv 0) (pa_cons (pv 1) (pa_cons (pv 2) (pa_cons (pv 3) pa_nil)))))) (pw_and1 (pt_val (C8.pe_c c_parted hr (by decide) rfl (pa_cons (pv 2) (pa_cons (pv 3) (pa_cons (pv 0) (pa_cons (pv 1) pa_nil))))))))) (pss_one (ps_ret pe_bl)) pss_nil) (pss_cons (ps_if (PW.pt (pw_or (pt_val (C8.pe_c c_on_way hr (by decide) rfl (pa_cons (pv 0) (pa_cons (pv 1) (pa_cons (pv 2) pa_nil))))) (pw_or1 (pt_val (C8.pe_c c_on_way hr (by decide) rfl (pa_cons (pv 0) (pa_cons (pv 1) (pa_cons (pv 3) pa_nil)))))))) (pss_one (ps_ret pe_bl)) pss_nil) (pss_one (ps_ret (pe_or (C8.pe_c c_on_way hr (by decide) rfl (pa_cons (pv 2) (pa_cons (pv 3) (pa_cons (pv 0) pa_nil)))) (pe_one (C8.pe_c c_on_way hr (by decide) rfl (pa_cons (pv 2) (pa_cons (pv 3) (pa_cons (pv 1) pa_nil)))))))))), body (s_when (et_and (et_B (e_callV (ea_cons (ev_var rfl) (ea_cons (ev_var rfl) (ea_cons (ev_var rfl) (ea_cons (ev_var rfl) ea_nil)))) fun H1 e => ⟨a, b, c, d, p, q, r, t, rfl, ha.mono e, hb.mono e, hc.mono e, hd.mono e, bpp, bq, br, bt, rfl⟩))
      fun _ => et_B (e_callV (ea_cons (ev_var rfl) (ea_cons (ev_var rfl) (ea_cons (ev_var rfl) (ea_cons (ev_var rfl) ea_nil)))) fun H1 e => ⟨c, d, a, b, r, t, p, q, rfl, hc.mono e, hd.mono e, ha.mono e, hb.mono e, br, bt, bpp, bq, rfl⟩))
      (fun h1 => s_ret (Same.refl _) (ev_c.is ?_)) fun h1 => s_when (et_or (et_B (e_callV (ea_cons (ev_var rfl) (ea_cons (ev_var rfl) (ea_cons (ev_var rfl) ea_nil))) fun H1 e => ⟨a, b, c, p, q, r, rfl, ha.mono e, hb.mono e, hc.mono e, bpp, bq, br, rfl⟩))
        fun _ => et_B (e_callV (ea_cons (ev_var rfl) (ea_cons (ev_var rfl) (ea_cons (ev_var rfl) ea_nil))) fun H1 e => ⟨a, b, d, p, q, t, rfl, ha.mono e, hb.mono e, hd.mono e, bpp, bq, bt, rfl⟩))
      (fun h2 => s_ret (Same.refl _) (ev_c.is ?_)) fun h2 => s_ret (Same.refl _) (EvP.is (e_orV (e_callV (ea_cons (ev_var rfl) (ea_cons (ev_var rfl) (ea_cons (ev_var rfl) ea_nil))) fun H1 e => ⟨c, d, a, r, t, p, rfl, hc.mono e, hd.mono e, ha.mono e, br, bt, bpp, rfl⟩)
        fun _ => e_callV (ea_cons (ev_var rfl) (ea_cons (ev_var rfl) (ea_cons (ev_var rfl) ea_nil))) fun H1 e => ⟨c, d, b, r, t, q, rfl, hc.mono e, hd.mono e, hb.mono e, br, bt, bq, rfl⟩) ?_)) k⟩
    · show V.bl true = V.bl (LsGeo.meet p q r t)
      rw [meetP, h1]; rfl
    · show V.bl true = V.bl (LsGeo.meet p q r t)
      rw [meetP, h1, Bool.false_or, ← Bool.or_assoc, h2]; rfl
    · show V.bl _ = V.bl (LsGeo.meet p q r t)
      rw [meetP, h1, Bool.false_or, ← Bool.or_assoc, h2]; rfl
theorem ok_goes_back (T : Txt K mg A) (c_turn : C8.Cal P w K mg base 1 "turn" (sp_turn K A) []) {f : Addr} {fd : FuncData} (F : C8.Def K mg "goes_back" s_goes_back f fd) (bb : Binds K fd ["a", "b", "c"] []) : C8.Cal P w K mg base 2 "goes_back" (sp_goes_back K A) [] := by
  refine C8.cal0 F bb .nil sc_goes_back (fun vs H Q E h => ?_) (fun cdv Ar outer s H vs Q E hr h => ?_)
  · obtain ⟨R, ⟨a, b, c, p, q, r, rfl, _⟩, _⟩ := h
    rfl
  · obtain ⟨R, ⟨a, b, c, p, q, r, rfl, ha, hb, hc, bpp, bq, br, rfl⟩, k⟩ := h
    refine ⟨_, (pss_cons (ps_if (pt_cmpR op_ne (C8.pe_c c_turn hr (by decide) rfl (pa_cons (pv 0) (pa_cons (pv 1) (pa_cons (pv 2) pa_nil)))) pe_int (nomark _)) (pss_one (ps_ret pe_bl)) pss_nil) (pss_one (ps_ret (pe_cmpR op_lt (pe_op op_add (pe_op op_mul (pe_op op_sub (pe_ix ix_tup (pv 1) pe_int (fun _ _ => rfl)) (pe_ix ix_tup (pv 0) pe_int (fun _ _ => rfl))) (pe_op op_sub (pe_ix ix_tup (pv 2) pe_int (fun _ _ => rfl)) (pe_ix ix_tup (pv 1) pe_int (fun _ _ => rfl)))) (pe_op op_mul (pe_op op_sub (pe_ix ix_tup (pv 1) pe_int (fun _ _ => rfl)) (pe_ix ix_tup (pv 0) pe_int (fun _ _ => rfl))) (pe_op op_sub (pe_ix ix_tup (pv 2) pe_int (fun _ _ => rfl)) (pe_ix ix_tup (pv 1) pe_int (fun _ _ => rfl))))) pe_int (nomark _))))), body (s_when (et_test (e_ne (e_callV (ea_cons (ev_var rfl) (ea_cons (ev_var rfl) (ea_cons (ev_var rfl) ea_nil))) fun H1 e => ⟨a, b, c, p, q, r, rfl, ha.mono e, hb.mono e, hc.mono e, bpp, bq, br, rfl⟩) ev_c))
      (fun h1 => s_ret (Same.refl _) (ev_c.is ?_)) fun h1 => s_ret (Same.refl _) (EvP.is (x := .bl (decide ((q.x - p.x) * (r.x - q.x) + (q.y - p.y) * (r.y - q.y) < 0))) ?_ ?_)) k⟩
    · show V.bl false = V.bl (Ge.goesBack p q r)
      unfold Ge.goesBack
      rw [if_pos (by simpa using h1)]
    · unfold PtAt at ha hb hc
      unfold bp at bpp bq br
      trivial
    · show V.bl _ = V.bl (Ge.goesBack p q r)
      unfold Ge.goesBack
      rw [if_neg (by simpa using h1)]
end
end Wk
end
/-! ### WComp -/
section
set_option Elab.async false
set_option linter.all false
set_option maxRecDepth 100000
set_option maxHeartbeats 2000000
namespace Wk
open PySem PySem.Spec PyProof.Rows L2
open LsGeo (Pt)
/-! Lists told by what is true of their items; comprehensions. -/
/-- it stands where a list that it doesn't speak of changes -/
class Stab (R : RR) : Prop where
  stab : ∀ {v : V} {H : Hp} {D : Addr} {acc acc' : List V}, H D = some (.lst acc) → R v H → R v (upd H D (.lst acc'))
instance (x : V) : Stab (isV x) := ⟨fun _ h => h⟩
instance (xs : List V) : Stab (isT xs) := ⟨fun e ⟨p, h1, h2⟩ => ⟨p, h1, by rw [upd_ne (ne_of h2 e (by intro z; cases z))]; exact h2⟩⟩
theorem PtAt.stab {H : Hp} {D a : Addr} {acc acc' : List V} {p : Pt} (e : H D = some (.lst acc)) (h : PtAt H a p) : PtAt (upd H D (.lst acc')) a p := by
  unfold PtAt at h ⊢
  rw [upd_ne (ne_of h e (by intro z; cases z))]; exact h
theorem WayAt.stab {H : Hp} {D a : Addr} {acc acc' : List V} {p : Pt × Pt} (e : H D = some (.lst acc)) (h : WayAt H a p) : WayAt (upd H D (.lst acc')) a p := by
  obtain ⟨b, c, h1, h2, h3⟩ := h
  exact ⟨b, c, by rw [upd_ne (ne_of h1 e (by intro z; cases z))]; exact h1, h2.stab e, h3.stab e⟩
instance (p : Pt) : Stab (RPt p) := ⟨fun e ⟨a, h1, h2⟩ => ⟨a, h1, h2.stab e⟩⟩
instance (p : Pt × Pt) : Stab (RWay p) := ⟨fun e ⟨a, h1, h2⟩ => ⟨a, h1, h2.stab e⟩⟩
def LstAt {α : Type} (F : α → RR) (H : Hp) (a : Addr) (xs : List α) : Prop := ∃ vs, H a = some (.lst vs) ∧ Paired (fun v x => F x v H) vs xs
def RLst {α : Type} (F : α → RR) (xs : List α) : RR := fun v H => ∃ a, v = .ref a ∧ LstAt F H a xs
theorem LstAt.mono {α : Type} {F : α → RR} [m : ∀ x, Mono (F x)] {H H' : Hp} {a : Addr} {xs : List α} (e : Same H H') (h : LstAt F H a xs) : LstAt F H' a xs := by
  obtain ⟨vs, h1, h2⟩ := h
  exact ⟨vs, e _ _ h1, h2.monoP fun v x q => (m x).mono e q⟩
instance {α : Type} (F : α → RR) [∀ x, Mono (F x)] (xs : List α) : Mono (RLst F xs) := ⟨fun e ⟨a, h1, h2⟩ => ⟨a, h1, h2.mono e⟩⟩
theorem Paired.mapL {α β : Type} {f : α → V} {F : V → β → Prop} : ∀ {as : List α} {bs : List β}, Paired (fun a b => F (f a) b) as bs → Paired F (as.map f) bs
  | _, _, .nil => .nil
  | _, _, .cons h r => .cons h (Paired.mapL r)
theorem refs_of {β : Type} {G : Addr → β → Prop} {vs : List V} {bs : List β} (h : Paired (fun v b => ∃ a, v = V.ref a ∧ G a b) vs bs) : ∃ as : List Addr, vs = as.map V.ref ∧ Paired G as bs := by
  induction h with
  | nil => exact ⟨[], rfl, .nil⟩
  | cons h _ ih =>
    obtain ⟨a, rfl, g⟩ := h
    obtain ⟨as, rfl, r⟩ := ih
    exact ⟨a :: as, rfl, .cons g r⟩
theorem pts_iff {H : Hp} {a : Addr} {ps : List Pt} : LstAt RPt H a ps ↔ PtsAt H a ps := by
  constructor
  · rintro ⟨vs, h1, h2⟩
    obtain ⟨as, rfl, r⟩ := refs_of h2
    exact ⟨as, h1, r⟩
  · rintro ⟨as, h1, h2⟩
    exact ⟨_, h1, Paired.mapL (h2.monoP fun a p q => ⟨a, rfl, q⟩)⟩
theorem ways_iff {H : Hp} {a : Addr} {ps : List (Pt × Pt)} : LstAt RWay H a ps ↔ WaysAt H a ps := by
  constructor
  · rintro ⟨vs, h1, h2⟩
    obtain ⟨as, rfl, r⟩ := refs_of h2
    exact ⟨as, h1, r⟩
  · rintro ⟨as, h1, h2⟩
    exact ⟨_, h1, Paired.mapL (h2.monoP fun a p q => ⟨a, rfl, q⟩)⟩
theorem vals_map {α : Type} {g : α → V} : ∀ {vs : List V} {xs : List α} {H : Hp}, Paired (fun v x => isV (g x) v H) vs xs → vs = xs.map g
  | _, _, _, .nil => rfl
  | _, _, H, .cons h r => by cases h; rw [vals_map (H := H) r]; rfl
theorem map_vals {α : Type} {g : α → V} {H : Hp} : ∀ xs : List α, Paired (fun v x => isV (g x) v H) (xs.map g) xs
  | [] => .nil
  | x :: xs => .cons rfl (map_vals xs)
section
variable {K : PySem.W.Frag} {σ : L2.St} {H : Hp} {ta te : TE} {tt : TT}
theorem range_filter_succ {i : Nat} {f : Nat → Bool} : (List.range (i + 1)).filter f = (List.range i).filter f ++ (if f i = true then [i] else []) := by
  rw [List.range_succ, List.filter_append]
  by_cases h : f i = true
  · rw [if_pos h]; simp [h]
  · rw [if_neg h]; simp [h]
/-- a comprehension over anything that is walked -/
theorem lcw {J : It} {n : Nat} {G : Hp → Prop} {Y : Nat → Hp → V → Hp → Prop} (w : L2.Walk J n G Y) {g : TG} {vs : List Nat} {H1 : Hp} {D : Addr} {Qd : VK} (hD : H1 D = none) (hn : n ≤ 1000000) (keep : Nat → Bool) (O : Nat → RR) [mo : ∀ i, Mono (O i)] [st : ∀ i, Stab (O i)]
    (hG : ∀ H', Same H1 H' → G H') (hY : ∀ i H x H', Y i H x H' → Same H H')
    (hs : ∀ i x H' Hy, i < n → Same H1 H' → Y i H' x Hy → ∀ Qg : L2.St → Hp → Prop, (∀ σ2 H2, Same Hy H2 → wipe σ2 vs = wipe σ vs → EvT tt σ2 H2 (keep i) → (keep i = true → EvP te σ2 H2 (O i)) → Qg σ2 H2) → g x (wipe σ vs) Hy Qg)
    (hq : ∀ H', Same H1 H' → RLst O ((List.range n).filter keep) (.ref D) H' → Qd (.ref D) H') :
    ∃ W : Nat → Nat → Hp → Prop, (∃ m, W 0 m (upd H1 D (.lst []))) ∧ ∀ i m H, W i m H →
      (J.stop i H ∧ Qd (.ref D) H) ∨ (J.go i H ∧ ∃ Nx : Hp → Prop, (∀ H', Nx H' → ∃ m', m' < m ∧ W (i + 1) m' H') ∧ ∀ x H', J.yld i H x H' → g x (wipe σ vs) H' fun σ2 H2 => wipe σ2 vs = wipe σ vs ∧ tt σ2 H2 fun b H3 =>
        if b = true then te σ2 H3 fun y H4 => ∃ acc, H4 D = some (.lst acc) ∧ acc.length < sizeLine ∧ Nx (upd H4 D (.lst (acc ++ [y]))) else Nx H3) := by
  refine lc_it w (fun i H' => Same H1 H' ∧ ∃ acc, H' D = some (.lst acc) ∧ Paired (fun v k => O k v H') acc ((List.range i).filter keep)) ⟨Same.new hD, [], upd_same, .nil⟩ (fun i H' _ p => hG H' p.1) ?_ ?_
  · rintro i x H' Hy hi ⟨s1, acc, hacc, pr⟩ y
    have sy := hY _ _ _ _ y
    refine hs i x H' Hy hi s1 y _ fun σ2 H2 e2 hw ht he => ⟨hw, ?_⟩
    refine ht H2 (Same.refl _) _ fun H3 e3 => ?_
    have e := (sy.trans e2).trans e3
    have lenacc : acc.length ≤ i := by
      rw [pr.len]; exact Nat.le_trans (List.length_filter_le _ _) (by simp)
    by_cases kp : keep i = true
    · rw [if_pos kp]
      refine he kp H3 e3 _ fun v H4 e4 hv => ?_
      have hD4 := (e.trans e4) _ _ hacc
      refine ⟨acc, hD4, sz_lt (by omega), ((s1.trans e).trans e4).mut hD, acc ++ [v], upd_same, ?_⟩
      rw [range_filter_succ, if_pos kp]
      exact (pr.monoP fun v k q => (st k).stab hD4 ((mo k).mono (e.trans e4) q)).app (.cons ((st i).stab hD4 hv) .nil)
    · rw [if_neg kp]
      refine ⟨s1.trans e, acc, e _ _ hacc, ?_⟩
      rw [range_filter_succ, if_neg kp, List.append_nil]
      exact pr.monoP fun v k q => (mo k).mono e q
  · rintro H' ⟨s1, acc, hacc, pr⟩
    exact hq H' s1 ⟨D, rfl, acc, hacc, pr⟩
/-- [e for x in l if t], l a list -/
theorem e_lcL {a : Addr} {xs : List V} {tl : TE} {j : Nat} {vs : List Nat} (keep : Nat → Bool) (O : Nat → RR) [mo : ∀ i, Mono (O i)] [st : ∀ i, Stab (O i)] (h : EvP tl σ H (isV (.ref a))) (hx : SqL K H a xs) (hn : xs.length ≤ 1000000)
    (hw : ∀ x, wipe ((wipe σ vs).set j (some x)) vs = wipe σ vs)
    (ht : ∀ i x H', xs[i]? = some x → Same H H' → EvT tt ((wipe σ vs).set j (some x)) H' (keep i)) (he : ∀ i x H', xs[i]? = some x → Same H H' → keep i = true → EvP te ((wipe σ vs).set j (some x)) H' (O i)) :
    EvP (tLc (iList K tl) (gName j) tt te vs) σ H (RLst O ((List.range xs.length).filter keep)) := fun H1 e Q q =>
  h H1 e _ fun v H2 e2 hv => ⟨a, hv, ⟨xs, (e.trans e2).sl hx⟩, fun D hD => lcw (walk_list (K := K) (a := a) (xs := xs)) hD hn keep O (fun H' s => ((e.trans e2).trans s).sl hx) (fun i H x H' y => by obtain ⟨rfl, _⟩ := y; exact Same.refl _)
    (fun i x H' Hy hi s y Qg k => by
      obtain ⟨rfl, hxi⟩ := y
      exact k _ _ (Same.refl _) (hw x) (ht i x _ hxi ((e.trans e2).trans s)) (fun kp => he i x _ hxi ((e.trans e2).trans s) kp))
    (fun H' s r => q _ H' (e2.trans s) r)⟩
theorem e_lcT {a : Addr} {xs : List V} {tl : TE} {j : Nat} {vs : List Nat} (keep : Nat → Bool) (O : Nat → RR) [mo : ∀ i, Mono (O i)] [st : ∀ i, Stab (O i)] (h : EvP tl σ H (isV (.ref a))) (hx : SqT K H a xs) (hn : xs.length ≤ 1000000)
    (hw : ∀ x, wipe ((wipe σ vs).set j (some x)) vs = wipe σ vs)
    (ht : ∀ i x H', xs[i]? = some x → Same H H' → EvT tt ((wipe σ vs).set j (some x)) H' (keep i)) (he : ∀ i x H', xs[i]? = some x → Same H H' → keep i = true → EvP te ((wipe σ vs).set j (some x)) H' (O i)) :
    EvP (tLc (iTup K tl) (gName j) tt te vs) σ H (RLst O ((List.range xs.length).filter keep)) := fun H1 e Q q =>
  h H1 e _ fun v H2 e2 hv => ⟨a, hv, ⟨xs, (e.trans e2).st hx⟩, fun D hD => lcw (walk_tup (K := K) (a := a) (xs := xs)) hD hn keep O (fun H' s => ((e.trans e2).trans s).st hx) (fun i H x H' y => by obtain ⟨rfl, _⟩ := y; exact Same.refl _)
    (fun i x H' Hy hi s y Qg k => by
      obtain ⟨rfl, hxi⟩ := y
      exact k _ _ (Same.refl _) (hw x) (ht i x _ hxi ((e.trans e2).trans s)) (fun kp => he i x _ hxi ((e.trans e2).trans s) kp))
    (fun H' s r => q _ H' (e2.trans s) r)⟩
/-- over a list that an expression makes -/
theorem e_lcLN {Rl : Addr → Hp → List V → Prop} {tl : TE} {j n : Nat} {vs : List Nat} (keep : Nat → Bool) (O : Nat → RR) [mo : ∀ i, Mono (O i)] [st : ∀ i, Stab (O i)]
    (h : EvP tl σ H (fun v H1 => ∃ a xs, v = .ref a ∧ H1 a = some (.lst xs) ∧ xs.length = n ∧ Rl a H1 xs)) (hn : n ≤ 1000000)
    (hw : ∀ x, wipe ((wipe σ vs).set j (some x)) vs = wipe σ vs)
    (ht : ∀ a xs H2 i x H', Same H H2 → Rl a H2 xs → xs[i]? = some x → Same H2 H' → EvT tt ((wipe σ vs).set j (some x)) H' (keep i)) (he : ∀ a xs H2 i x H', Same H H2 → Rl a H2 xs → xs[i]? = some x → Same H2 H' → keep i = true → EvP te ((wipe σ vs).set j (some x)) H' (O i)) :
    EvP (tLc (iList K tl) (gName j) tt te vs) σ H (RLst O ((List.range n).filter keep)) := fun H1 e Q q =>
  h H1 e _ fun v H2 e2 hv => by
    obtain ⟨a, xs, rfl, hx, rfl, hr⟩ := hv
    exact ⟨a, rfl, ⟨xs, SqL.of hx⟩, fun D hD => lcw (walk_list (K := K) (a := a) (xs := xs)) hD hn keep O (fun H' s => s.sl (SqL.of hx)) (fun i H x H' y => by obtain ⟨rfl, _⟩ := y; exact Same.refl _)
      (fun i x H' Hy hi s y Qg k => by
        obtain ⟨rfl, hxi⟩ := y
        exact k _ _ (Same.refl _) (hw x) (ht a xs H2 i x _ (e.trans e2) hr hxi s) (fun kp => he a xs H2 i x _ (e.trans e2) hr hxi s kp))
      (fun H' s r => q _ H' (e2.trans s) r)⟩
/-- over range(n) -/
theorem e_lcR {m : Int} {n : Nat} {j : Nat} {vs : List Nat} {ta : TA} (keep : Nat → Bool) (O : Nat → RR) [mo : ∀ i, Mono (O i)] [st : ∀ i, Stab (O i)] (h : EvA ta σ H (isA [.int m])) (hm : m.toNat = n) (hb : -(2 ^ 62) ≤ m) (hn : n ≤ 1000000)
    (hw : ∀ x, wipe ((wipe σ vs).set j (some x)) vs = wipe σ vs)
    (ht : ∀ (i : Nat) H', i < n → Same H H' → EvT tt ((wipe σ vs).set j (some (.int i))) H' (keep i)) (he : ∀ (i : Nat) H', i < n → Same H H' → keep i = true → EvP te ((wipe σ vs).set j (some (.int i))) H' (O i)) :
    EvP (tLc (iRng1 ta) (gName j) tt te vs) σ H (RLst O ((List.range n).filter keep)) := fun H1 e Q q =>
  h H1 e _ fun v H2 e2 hv => by
    subst hm
    exact ⟨m, hv, hb, by omega, fun D hD => lcw (walk_range (lo := 0) (n := m.toNat)) hD hn keep O (fun _ _ => trivial) (fun i H x H' y => by obtain ⟨rfl, _⟩ := y; exact Same.refl _)
      (fun i x H' Hy hi s y Qg k => by
        obtain ⟨rfl, rfl⟩ := y
        have z : (0 : Int) + (i : Int) = i := by omega
        show Qg ((wipe σ vs).set j (some (.int (0 + (i : Int))))) _
        rw [z]
        exact k _ _ (Same.refl _) (hw _) (ht i _ hi ((e.trans e2).trans s)) (fun kp => he i _ hi ((e.trans e2).trans s) kp))
      (fun H' s r => q _ H' (e2.trans s) r)⟩
/-- over range(a, b, c) -/
theorem e_lcRC {lo hi c : Int} {n : Nat} {j : Nat} {vs : List Nat} {ta : TA} (keep : Nat → Bool) (O : Nat → RR) [mo : ∀ i, Mono (O i)] [st : ∀ i, Stab (O i)] (h : EvA ta σ H (isA [.int lo, .int hi, .int c])) (hr : RgC lo hi c n) (hn : n ≤ 1000000)
    (hw : ∀ x, wipe ((wipe σ vs).set j (some x)) vs = wipe σ vs)
    (ht : ∀ (i : Nat) H', i < n → Same H H' → EvT tt ((wipe σ vs).set j (some (.int (lo + i * c)))) H' (keep i)) (he : ∀ (i : Nat) H', i < n → Same H H' → keep i = true → EvP te ((wipe σ vs).set j (some (.int (lo + i * c)))) H' (O i)) :
    EvP (tLc (iRng3 ta) (gName j) tt te vs) σ H (RLst O ((List.range n).filter keep)) := fun H1 e Q q =>
  h H1 e _ fun v H2 e2 hv => ⟨lo, hi, c, n, hv, hr, fun D hD => lcw (walk_rangeC (lo := lo) (c := c) (n := n)) hD hn keep O (fun _ _ => trivial) (fun i H x H' y => by obtain ⟨rfl, _⟩ := y; exact Same.refl _)
      (fun i x H' Hy hi s y Qg k => by
        obtain ⟨rfl, rfl⟩ := y
        exact k _ _ (Same.refl _) (hw _) (ht i _ hi ((e.trans e2).trans s)) (fun kp => he i _ hi ((e.trans e2).trans s) kp))
      (fun H' s r => q _ H' (e2.trans s) r)⟩
/-- over the signs of a text -/
theorem e_lcS {z : Str} {tl : TE} {j : Nat} {vs : List Nat} (keep : Nat → Bool) (O : Nat → RR) [mo : ∀ i, Mono (O i)] [st : ∀ i, Stab (O i)] (h : EvP tl σ H (isV (.str z))) (hn : z.cps.size ≤ 1000000)
    (hw : ∀ x, wipe ((wipe σ vs).set j (some x)) vs = wipe σ vs)
    (ht : ∀ i c H', z.cps[i]? = some c → Same H H' → EvT tt ((wipe σ vs).set j (some (.str ⟨#[c]⟩))) H' (keep i)) (he : ∀ i c H', z.cps[i]? = some c → Same H H' → keep i = true → EvP te ((wipe σ vs).set j (some (.str ⟨#[c]⟩))) H' (O i)) :
    EvP (tLc (iStr tl) (gName j) tt te vs) σ H (RLst O ((List.range z.cps.size).filter keep)) := fun H1 e Q q =>
  h H1 e _ fun v H2 e2 hv => ⟨z, hv, fun D hD => lcw (walk_str (z := z)) hD hn keep O (fun _ _ => trivial) (fun i H x H' y => by obtain ⟨rfl, _⟩ := y; exact Same.refl _)
      (fun i x H' Hy hi s y Qg k => by
        obtain ⟨rfl, c, hc, rfl⟩ := y
        exact k _ _ (Same.refl _) (hw _) (ht i c _ hc ((e.trans e2).trans s)) (fun kp => he i c _ hc ((e.trans e2).trans s) kp))
      (fun H' s r => q _ H' (e2.trans s) r)⟩
/-- over a list of pairs (tuples), told to two names -/
theorem e_lcL2 {Rl : Addr → Hp → List V → Prop} {tl : TE} {j1 j2 n : Nat} {vs : List Nat} (keep : Nat → Bool) (O : Nat → RR) [mo : ∀ i, Mono (O i)] [st : ∀ i, Stab (O i)]
    (h : EvP tl σ H (fun v H1 => ∃ a xs, v = .ref a ∧ H1 a = some (.lst xs) ∧ xs.length = n ∧ Rl a H1 xs)) (hn : n ≤ 1000000)
    (hw : ∀ x y, wipe (((wipe σ vs).set j1 (some x)).set j2 (some y)) vs = wipe σ vs)
    (ht : ∀ a xs H2 i v, Same H H2 → Rl a H2 xs → xs[i]? = some v → ∃ t x y, v = .ref t ∧ H2 t = some (.tup [x, y]) ∧ (∀ H', Same H2 H' → EvT tt (((wipe σ vs).set j1 (some x)).set j2 (some y)) H' (keep i) ∧ (keep i = true → EvP te (((wipe σ vs).set j1 (some x)).set j2 (some y)) H' (O i)))) :
    EvP (tLc (iList K tl) (gTup K 2 (gCons (gName j1) (gCons (gName j2) gNil))) tt te vs) σ H (RLst O ((List.range n).filter keep)) := fun H1 e Q q =>
  h H1 e _ fun v H2 e2 hv => by
    obtain ⟨a, xs, rfl, hx, rfl, hr⟩ := hv
    exact ⟨a, rfl, ⟨xs, SqL.of hx⟩, fun D hD => lcw (walk_list (K := K) (a := a) (xs := xs)) hD hn keep O (fun H' s => s.sl (SqL.of hx)) (fun i H x H' y => by obtain ⟨rfl, _⟩ := y; exact Same.refl _)
      (fun i x H' Hy hi s y Qg k => by
        obtain ⟨rfl, hxi⟩ := y
        obtain ⟨t, x1, y1, rfl, ht2, hb⟩ := ht a xs H2 i x (e.trans e2) hr hxi
        refine ⟨t, [x1, y1], rfl, SqT.of (s _ _ ht2), rfl, x1, [y1], rfl, y1, [], rfl, rfl, ?_⟩
        exact k _ _ (Same.refl _) (hw _ _) (hb _ s).1 (hb _ s).2)
      (fun H' s r => q _ H' (e2.trans s) r)⟩
theorem et_yes {σ : L2.St} {H : Hp} : EvT tYes σ H true := fun H1 _ Q q => q H1 (Same.refl _)
theorem range_all (n : Nat) : (List.range n).filter (fun _ => true) = List.range n := by simp
theorem ea_v1 {i : Nat} {x : V} (h : σ[i]? = some (some x)) : EvA (tCons (tVar i) tNil) σ H (isA [x]) := ea_cons (ev_var h) ea_nil
theorem ea_v2 {i j : Nat} {x y : V} (h : σ[i]? = some (some x)) (h2 : σ[j]? = some (some y)) : EvA (tCons (tVar i) (tCons (tVar j) tNil)) σ H (isA [x, y]) := ea_cons (ev_var h) (ea_v1 h2)
theorem ea_v3 {i j k : Nat} {x y z : V} (h : σ[i]? = some (some x)) (h2 : σ[j]? = some (some y)) (h3 : σ[k]? = some (some z)) : EvA (tCons (tVar i) (tCons (tVar j) (tCons (tVar k) tNil))) σ H (isA [x, y, z]) := ea_cons (ev_var h) (ea_v2 h2 h3)
theorem ea_v4 {i j k l : Nat} {x y z u : V} (h : σ[i]? = some (some x)) (h2 : σ[j]? = some (some y)) (h3 : σ[k]? = some (some z)) (h4 : σ[l]? = some (some u)) : EvA (tCons (tVar i) (tCons (tVar j) (tCons (tVar k) (tCons (tVar l) tNil)))) σ H (isA [x, y, z, u]) := ea_cons (ev_var h) (ea_v3 h2 h3 h4)
/-- len of a list -/
theorem e_lenS {a : Addr} {xs : List V} (ha : EvP ta σ H (isV (.ref a))) (h : H a = some (.lst xs)) : EvP (tCB (fun xs H Q => ∃ p ys, xs = [.ref p] ∧ (SqL K H p ys ∨ SqT K H p ys) ∧ Q (.int ys.length) H) (tCons ta tNil)) σ H (isV (.int xs.length)) :=
  e_cb (ea_cons ha ea_nil) fun vs H1 e hv Q q => by
    cases hv
    exact ⟨a, xs, rfl, .inl (SqL.of (e _ _ h)), q _ H1 (Same.refl _) rfl⟩
theorem e_lenR {R : RR} {n : Nat} (ha : EvP ta σ H R) [m : Mono R] (h : ∀ v H1, Same H H1 → R v H1 → ∃ a xs, v = .ref a ∧ H1 a = some (.lst xs) ∧ xs.length = n) : EvP (tCB (fun xs H Q => ∃ p ys, xs = [.ref p] ∧ (SqL K H p ys ∨ SqT K H p ys) ∧ Q (.int ys.length) H) (tCons ta tNil)) σ H (isV (.int n)) :=
  e_cb (ea_consG ha fun _ _ => ea_nil) fun vs H1 e hv Q q => by
    obtain ⟨v, r, rfl, hR, hr⟩ := hv
    cases hr
    obtain ⟨a, xs, rfl, hx, hl⟩ := h v H1 e hR
    exact ⟨a, xs, rfl, .inl (SqL.of hx), q _ H1 (Same.refl _) (by rw [hl]; rfl)⟩
end
end Wk
end
/-! ### WComp2 -/
section
set_option Elab.async false
set_option linter.all false
set_option maxRecDepth 100000
set_option maxHeartbeats 2000000
namespace Wk
open PySem PySem.Spec PyProof.Rows L2
open LsGeo (Pt)
def Ro {α : Type} (F : α → RR) : Option α → RR
  | some x => F x
  | none => fun _ _ => False
instance {α : Type} (F : α → RR) [m : ∀ x, Mono (F x)] (o : Option α) : Mono (Ro F o) := ⟨fun {v H H'} e h => by cases o with
  | none => exact h
  | some x => exact (m x).mono e h⟩
instance {α : Type} (F : α → RR) [m : ∀ x, Stab (F x)] (o : Option α) : Stab (Ro F o) := ⟨fun {v H D acc acc'} e h => by cases o with
  | none => exact h
  | some x => exact (m x).stab e h⟩
theorem paired_app {α β : Type} {F : α → β → Prop} : ∀ {vs : List α} {bs cs : List β}, Paired F vs (bs ++ cs) → ∃ v1 v2, vs = v1 ++ v2 ∧ Paired F v1 bs ∧ Paired F v2 cs
  | vs, [], cs, h => ⟨[], vs, rfl, .nil, h⟩
  | _, b :: bs, cs, .cons h r => by
    obtain ⟨v1, v2, rfl, r1, r2⟩ := paired_app r
    exact ⟨_ :: v1, v2, rfl, .cons h r1, r2⟩
theorem paired_take {α : Type} {G : α → RR} {H : Hp} {kp : α → Bool} (L : List α) : ∀ (n : Nat) {vs : List V}, n ≤ L.length → Paired (fun v i => Ro G (L[i]?) v H) vs ((List.range n).filter fun i => (L[i]?).any kp) → Paired (fun v x => G x v H) vs ((L.take n).filter kp)
  | 0, vs, _, h => by cases h; exact .nil
  | n + 1, vs, hn, h => by
    rw [range_filter_succ] at h
    obtain ⟨v1, v2, rfl, r1, r2⟩ := paired_app h
    have ih := paired_take L n (by omega) r1
    have e : L.take (n + 1) = L.take n ++ [L[n]'(by omega)] := by rw [List.take_append_getElem]
    rw [e, List.filter_append]
    refine ih.app ?_
    have g : L[n]? = some (L[n]'(by omega)) := List.getElem?_eq_getElem (by omega)
    rw [g] at r2
    by_cases k : kp (L[n]'(by omega)) = true
    · have k' : Option.any kp (some (L[n]'(by omega))) = true := k
      rw [if_pos k'] at r2
      cases r2 with
      | cons h2 r3 =>
        cases r3
        rw [g] at h2
        simp only [List.filter_cons, k, if_true, List.filter_nil]
        exact .cons h2 .nil
    · have k' : ¬ Option.any kp (some (L[n]'(by omega))) = true := k
      rw [if_neg k'] at r2
      cases r2
      simp only [List.filter_cons, k, if_false, List.filter_nil]
      exact .nil
theorem rlst_filter {α : Type} {G : α → RR} {kp : α → Bool} {L : List α} {n : Nat} (hn : n = L.length) {v : V} {H : Hp} (h : RLst (fun i => Ro G (L[i]?)) ((List.range n).filter fun i => (L[i]?).any kp) v H) : RLst G (L.filter kp) v H := by
  obtain ⟨a, rfl, vs, h1, h2⟩ := h
  subst hn
  have := paired_take L L.length (Nat.le_refl _) h2
  rw [List.take_length] at this
  exact ⟨a, rfl, vs, h1, this⟩
theorem rlst_all {α : Type} {G : α → RR} {L : List α} {n : Nat} (hn : n = L.length) {v : V} {H : Hp} (h : RLst (fun i => Ro G (L[i]?)) ((List.range n).filter fun _ => true) v H) : RLst G L v H := by
  have e : (List.range n).filter (fun _ => true) = (List.range n).filter fun i => (L[i]?).any fun _ => true := by
    refine List.filter_congr fun i hi => ?_
    rw [List.mem_range] at hi
    rw [List.getElem?_eq_getElem (by omega)]; rfl
  rw [e] at h
  have := rlst_filter hn h
  rw [List.filter_eq_self.mpr fun _ _ => rfl] at this
  exact this
section
variable {K : PySem.W.Frag} {σ : L2.St} {H : Hp} {ta te : TE} {tt : TT} {α : Type} {F G : α → RR}
/-- [e for x in l if t] over a list of things, told by what they are -/
theorem e_lcF [mf : ∀ x, Mono (F x)] [mo : ∀ i, Mono (G i)] [st : ∀ i, Stab (G i)] {a : Addr} {L : List α} {tl : TE} {j : Nat} {vs : List Nat} (kp : α → Bool) (h : EvP tl σ H (isV (.ref a))) (hx : LstAt F H a L) (hn : L.length ≤ 1000000)
    (hw : ∀ x, wipe ((wipe σ vs).set j (some x)) vs = wipe σ vs)
    (ht : ∀ x v H', F x v H' → x ∈ L → Same H H' → EvT tt ((wipe σ vs).set j (some v)) H' (kp x)) (he : ∀ x v H', F x v H' → x ∈ L → Same H H' → kp x = true → EvP te ((wipe σ vs).set j (some v)) H' (G x)) :
    EvP (tLc (iList K tl) (gName j) tt te vs) σ H (RLst G (L.filter kp)) := by
  obtain ⟨xs, h1, h2⟩ := hx
  have hl : xs.length = L.length := h2.len
  refine EvP.imp (e_lcL (fun i => (L[i]?).any kp) (fun i => Ro G (L[i]?)) h (SqL.of h1) (by omega) hw (fun i x H' hi s => ?_) (fun i x H' hi s k => ?_)) fun v H1 _ r => rlst_filter hl r
  · obtain ⟨y, hy, f⟩ := h2.get hi
    rw [hy]
    exact ht y x H' ((mf y).mono s f) (List.mem_of_getElem? hy) s
  · obtain ⟨y, hy, f⟩ := h2.get hi
    rw [hy] at k ⊢
    exact he y x H' ((mf y).mono s f) (List.mem_of_getElem? hy) s k
/-- over a new list of things -/
theorem e_lcFN [mf : ∀ x, Mono (F x)] [mo : ∀ i, Mono (G i)] [st : ∀ i, Stab (G i)] {L : List α} {tl : TE} {j : Nat} {vs : List Nat} (kp : α → Bool) (h : EvP tl σ H (RLst F L)) (hn : L.length ≤ 1000000)
    (hw : ∀ x, wipe ((wipe σ vs).set j (some x)) vs = wipe σ vs)
    (ht : ∀ x v H', F x v H' → x ∈ L → Same H H' → EvT tt ((wipe σ vs).set j (some v)) H' (kp x)) (he : ∀ x v H', F x v H' → x ∈ L → Same H H' → kp x = true → EvP te ((wipe σ vs).set j (some v)) H' (G x)) :
    EvP (tLc (iList K tl) (gName j) tt te vs) σ H (RLst G (L.filter kp)) := by
  refine EvP.imp (e_lcLN (Rl := fun a H1 xs => Paired (fun v x => F x v H1) xs L) (n := L.length) (fun i => (L[i]?).any kp) (fun i => Ro G (L[i]?)) (h.imp fun v H1 _ r => ?_) hn hw (fun a xs H2 i x H' s2 r hi s => ?_) (fun a xs H2 i x H' s2 r hi s k => ?_)) fun v H1 _ r => rlst_filter rfl r
  · obtain ⟨a, rfl, vs, h1, h2⟩ := r
    exact ⟨a, vs, rfl, h1, h2.len, h2⟩
  · obtain ⟨y, hy, f⟩ := r.get hi
    rw [hy]
    exact ht y x H' ((mf y).mono s f) (List.mem_of_getElem? hy) (s2.trans s)
  · obtain ⟨y, hy, f⟩ := r.get hi
    rw [hy] at k ⊢
    exact he y x H' ((mf y).mono s f) (List.mem_of_getElem? hy) (s2.trans s) k
/-- over a new list of pairs, two names -/
theorem e_lcF2 [mf : ∀ x, Mono (F x)] [mo : ∀ i, Mono (G i)] [st : ∀ i, Stab (G i)] {L : List α} {tl : TE} {j1 j2 : Nat} {vs : List Nat} (kp : α → Bool) (h : EvP tl σ H (RLst F L)) (hn : L.length ≤ 1000000)
    (hw : ∀ x y, wipe (((wipe σ vs).set j1 (some x)).set j2 (some y)) vs = wipe σ vs)
    (ht : ∀ z v H2, F z v H2 → z ∈ L → Same H H2 → ∃ t x y, v = .ref t ∧ H2 t = some (.tup [x, y]) ∧ (∀ H', Same H2 H' → EvT tt (((wipe σ vs).set j1 (some x)).set j2 (some y)) H' (kp z) ∧ (kp z = true → EvP te (((wipe σ vs).set j1 (some x)).set j2 (some y)) H' (G z)))) :
    EvP (tLc (iList K tl) (gTup K 2 (gCons (gName j1) (gCons (gName j2) gNil))) tt te vs) σ H (RLst G (L.filter kp)) := by
  refine EvP.imp (e_lcL2 (Rl := fun a H1 xs => Paired (fun v x => F x v H1) xs L) (n := L.length) (fun i => (L[i]?).any kp) (fun i => Ro G (L[i]?)) (h.imp fun v H1 _ r => ?_) hn hw (fun a xs H2 i v s2 r hi => ?_)) fun v H1 _ r => rlst_filter rfl r
  · obtain ⟨a, rfl, vs, h1, h2⟩ := r
    exact ⟨a, vs, rfl, h1, h2.len, h2⟩
  · obtain ⟨y, hy, f⟩ := r.get hi
    obtain ⟨t, x, z, e1, e2, e3⟩ := ht y v H2 f (List.mem_of_getElem? hy) s2
    refine ⟨t, x, z, e1, e2, fun H' s => ?_⟩
    rw [hy]
    exact e3 H' s
end
/-! a for over things; B: what stood before -/
section
variable {K : PySem.W.Frag} {σ : L2.St} {B H H' : Hp} {ta tb te : TE} {c : TT} {t u z : TS} {R Ra Rb : RR} {N M : L2.St → Hp → Prop} {α : Type} {F : α → RR}
/-- for x in l: the word Pv tells the slots and what is known -/
theorem s_forF [mf : ∀ x, Mono (F x)] {L : List α} {tl : TE} {j : Nat} {tb : TS} (s : Same B H) (h : EvP tl σ H (RLst F L)) (Pv : Nat → L2.St → Hp → Prop) (hfresh : ∀ a vs H1, Same H H1 → H1 a = some (.lst vs) → ∀ i σ' H', Pv i σ' H' → H' a = some (.lst vs))
    (h0 : ∀ H1, Same H H1 → Pv 0 σ H1)
    (hs : ∀ i x v σ' H', L[i]? = some x → Same B H' → (∃ H1, Same H H1 ∧ F x v H1) → Pv i σ' H' → Run tb (σ'.set j (some v)) B H' R (Pv (i + 1)))
    (hd : ∀ σ' H', Same B H' → Pv L.length σ' H' → N σ' H') : Run (tFor (iList K tl) (gName j) tb) σ B H R N := fun H1 e D q n =>
  h H1 e _ fun v H2 e2 hv => by
    obtain ⟨a, rfl, vs, h1, h2⟩ := hv
    refine ⟨a, rfl, ⟨vs, SqL.of h1⟩, for_list (K := K) (a := a) (xs := vs) (fun i σ' H' => Same B H' ∧ Pv i σ' H') ⟨(s.trans e).trans e2, h0 H2 (e.trans e2)⟩
      (fun i σ' H' hi p => SqL.of (hfresh a vs H2 (e.trans e2) h1 i σ' H' p.2)) (fun i x σ' H' hi p => ?_) fun σ' H' p => n σ' H' p.1 (hd σ' H' p.1 (by rw [← h2.len]; exact p.2))⟩
    obtain ⟨y, hy, f⟩ := h2.get hi
    exact hs i y x σ' H' hy p.1 ⟨H2, e.trans e2, f⟩ p.2 H' (Same.refl _) _ q fun σ2 H3 e3 hn => ⟨e3, hn⟩
end
section
variable {K : PySem.W.Frag} {σ : L2.St} {B H : Hp} {R : RR} {N : L2.St → Hp → Prop} {α : Type} {F : α → RR}
/-- a for that changes nothing that stands: Pv of the slots alone, the heap grows -/
theorem s_forQ [mf : ∀ x, Mono (F x)] {L : List α} {tl : TE} {j : Nat} {tb : TS} (s : Same B H) (h : EvP tl σ H (RLst F L)) (Pv : Nat → L2.St → Prop) (h0 : Pv 0 σ)
    (hs : ∀ i x v σ' H', L[i]? = some x → Same H H' → F x v H' → Pv i σ' → Run tb (σ'.set j (some v)) H' H' R (fun σ2 _ => Pv (i + 1) σ2))
    (hd : ∀ σ' H', Same H H' → Pv L.length σ' → N σ' H') : Run (tFor (iList K tl) (gName j) tb) σ B H R N := fun H1 e D q n =>
  h H1 e _ fun v H2 e2 hv => by
    obtain ⟨a, rfl, vs, h1, h2⟩ := hv
    refine ⟨a, rfl, ⟨vs, SqL.of h1⟩, for_list (K := K) (a := a) (xs := vs) (fun i σ' H' => Same H2 H' ∧ Pv i σ') ⟨Same.refl _, h0⟩
      (fun i σ' H' hi p => SqL.of (p.1 _ _ h1)) (fun i x σ' H' hi p => ?_) fun σ' H' p => n σ' H' (((s.trans e).trans e2).trans p.1) (hd σ' H' ((e.trans e2).trans p.1) (by rw [← h2.len]; exact p.2))⟩
    obtain ⟨y, hy, f⟩ := h2.get hi
    exact hs i y x σ' H' hy ((e.trans e2).trans p.1) ((mf y).mono p.1 f) p.2 H' (Same.refl _) _ (fun v H3 e3 hv => q v H3 ((((s.trans e).trans e2).trans p.1).trans e3) hv) fun σ2 H3 e3 hn => ⟨p.1.trans e3, hn⟩
/-- the same over pairs, two names -/
theorem s_forQ2 [mf : ∀ x, Mono (F x)] {L : List α} {tl : TE} {j1 j2 : Nat} {tb : TS} (s : Same B H) (h : EvP tl σ H (RLst F L)) (Pv : Nat → L2.St → Prop) (h0 : Pv 0 σ)
    (hs : ∀ i z v σ' H', L[i]? = some z → Same H H' → F z v H' → Pv i σ' → ∃ t x y, v = .ref t ∧ H' t = some (.tup [x, y]) ∧ Run tb ((σ'.set j1 (some x)).set j2 (some y)) H' H' R (fun σ2 _ => Pv (i + 1) σ2))
    (hd : ∀ σ' H', Same H H' → Pv L.length σ' → N σ' H') : Run (tFor (iList K tl) (gTup K 2 (gCons (gName j1) (gCons (gName j2) gNil))) tb) σ B H R N := fun H1 e D q n =>
  h H1 e _ fun v H2 e2 hv => by
    obtain ⟨a, rfl, vs, h1, h2⟩ := hv
    refine ⟨a, rfl, ⟨vs, SqL.of h1⟩, for_list (K := K) (a := a) (xs := vs) (fun i σ' H' => Same H2 H' ∧ Pv i σ') ⟨Same.refl _, h0⟩
      (fun i σ' H' hi p => SqL.of (p.1 _ _ h1)) (fun i x σ' H' hi p => ?_) fun σ' H' p => n σ' H' (((s.trans e).trans e2).trans p.1) (hd σ' H' ((e.trans e2).trans p.1) (by rw [← h2.len]; exact p.2))⟩
    obtain ⟨y, hy, f⟩ := h2.get hi
    obtain ⟨t, x1, y1, rfl, ht, r⟩ := hs i y x σ' H' hy ((e.trans e2).trans p.1) ((mf y).mono p.1 f) p.2
    exact ⟨t, [x1, y1], rfl, SqT.of ht, rfl, x1, [y1], rfl, y1, [], rfl, rfl, r H' (Same.refl _) _ (fun v H3 e3 hv => q v H3 ((((s.trans e).trans e2).trans p.1).trans e3) hv) fun σ2 H3 e3 hn => ⟨p.1.trans e3, hn⟩⟩
/-- a for over range(n) that changes nothing that stands -/
theorem s_forQR {m : Int} {n0 : Nat} {j : Nat} {ta : TA} {tb : TS} (s : Same B H) (h : EvA ta σ H (isA [.int m])) (hm : m.toNat = n0) (hb : -(2 ^ 62) ≤ m ∧ m < 2 ^ 62) (Pv : Nat → L2.St → Prop) (h0 : Pv 0 σ)
    (hs : ∀ i σ' H', i < n0 → Same H H' → Pv i σ' → Run tb (σ'.set j (some (.int (i : Nat)))) H' H' R (fun σ2 _ => Pv (i + 1) σ2))
    (hd : ∀ σ' H', Same H H' → Pv n0 σ' → N σ' H') : Run (tFor (iRng1 ta) (gName j) tb) σ B H R N := fun H1 e D q n =>
  h H1 e _ fun v H2 e2 hv => by
    subst hm
    refine ⟨m, hv, hb.1, hb.2, for_range (lo := 0) (n := m.toNat) (fun i σ' H' => Same H2 H' ∧ Pv i σ') ⟨Same.refl _, h0⟩ (fun i σ' H' hi p => ?_) fun σ' H' p => n σ' H' (((s.trans e).trans e2).trans p.1) (hd σ' H' ((e.trans e2).trans p.1) p.2)⟩
    have z : (0 : Int) + (i : Int) = i := by omega
    show tb _ (σ'.set j (some (.int (0 + (i : Int))))) H'
    rw [z]
    exact hs i σ' H' hi ((e.trans e2).trans p.1) p.2 H' (Same.refl _) _ (fun v H3 e3 hv => q v H3 ((((s.trans e).trans e2).trans p.1).trans e3) hv) fun σ2 H3 e3 hn => ⟨p.1.trans e3, hn⟩
/-- over range(a, b) -/
theorem s_forQR2 {a b : Int} {n0 : Nat} {j : Nat} {ta : TA} {tb : TS} (s : Same B H) (h : EvA ta σ H (isA [.int a, .int b])) (hm : (b - a).toNat = n0) (hb : -(2 ^ 62) ≤ a ∧ a < 2 ^ 62 ∧ -(2 ^ 62) ≤ b ∧ b < 2 ^ 62) (Pv : Nat → L2.St → Prop) (h0 : Pv 0 σ)
    (hs : ∀ i σ' H', i < n0 → Same H H' → Pv i σ' → Run tb (σ'.set j (some (.int (a + (i : Nat))))) H' H' R (fun σ2 _ => Pv (i + 1) σ2))
    (hd : ∀ σ' H', Same H H' → Pv n0 σ' → N σ' H') : Run (tFor (iRng2 ta) (gName j) tb) σ B H R N := fun H1 e D q n =>
  h H1 e _ fun v H2 e2 hv => by
    subst hm
    refine ⟨a, b, hv, hb, for_range (lo := a) (n := (b - a).toNat) (fun i σ' H' => Same H2 H' ∧ Pv i σ') ⟨Same.refl _, h0⟩ (fun i σ' H' hi p => ?_) fun σ' H' p => n σ' H' (((s.trans e).trans e2).trans p.1) (hd σ' H' ((e.trans e2).trans p.1) p.2)⟩
    exact hs i σ' H' hi ((e.trans e2).trans p.1) p.2 H' (Same.refl _) _ (fun v H3 e3 hv => q v H3 ((((s.trans e).trans e2).trans p.1).trans e3) hv) fun σ2 H3 e3 hn => ⟨p.1.trans e3, hn⟩
/-- over a tuple -/
theorem s_forQT {a : Addr} {xs : List V} {tl : TE} {j : Nat} {tb : TS} (s : Same B H) (h : EvP tl σ H (isV (.ref a))) (hx : SqT K H a xs) (Pv : Nat → L2.St → Prop) (h0 : Pv 0 σ)
    (hs : ∀ i x σ' H', xs[i]? = some x → Same H H' → Pv i σ' → Run tb (σ'.set j (some x)) H' H' R (fun σ2 _ => Pv (i + 1) σ2))
    (hd : ∀ σ' H', Same H H' → Pv xs.length σ' → N σ' H') : Run (tFor (iTup K tl) (gName j) tb) σ B H R N := fun H1 e D q n =>
  h H1 e _ fun v H2 e2 hv => by
    cases hv
    refine ⟨a, rfl, ⟨xs, (e.trans e2).st hx⟩, for_tup (K := K) (a := a) (xs := xs) (fun i σ' H' => Same H2 H' ∧ Pv i σ') ⟨Same.refl _, h0⟩
      (fun i σ' H' hi p => ((e.trans e2).trans p.1).st hx) (fun i x σ' H' hi p => ?_) fun σ' H' p => n σ' H' (((s.trans e).trans e2).trans p.1) (hd σ' H' ((e.trans e2).trans p.1) p.2)⟩
    exact hs i x σ' H' hi ((e.trans e2).trans p.1) p.2 H' (Same.refl _) _ (fun v H3 e3 hv => q v H3 ((((s.trans e).trans e2).trans p.1).trans e3) hv) fun σ2 H3 e3 hn => ⟨p.1.trans e3, hn⟩
end
end Wk
end
/-! ### WSh2 -/
section
set_option Elab.async false
set_option linter.all false
set_option maxRecDepth 100000
set_option maxHeartbeats 2000000
namespace Wk
open PySem PySem.Spec PyProof.Rows L2
open LsGeo (Pt)
/-! data that == looks at -/
def dPt (p : Pt) : PyData := .tuple [.int p.x, .int p.y]
def dPts (ps : List Pt) : PyData := .list (ps.map dPt)
def dInts (ns : List Int) : PyData := .list (ns.map .int)
def dTup (ns : List Int) : PyData := .tuple (ns.map .int)
section
variable {K : PySem.W.Frag} {H : Hp}
theorem dp_pt {a : Addr} {p : Pt} (h : PtAt H a p) : Dp K H (.ref a) (dPt p) := .tup (SqT.of h) (.cons (.int _) (.cons (.int _) .nil))
theorem dpAll_ints : ∀ ns : List Int, DpAll K H (ns.map V.int) (ns.map PyData.int)
  | [] => .nil
  | n :: ns => .cons (.int n) (dpAll_ints ns)
theorem dp_ints {a : Addr} {ns : List Int} (h : H a = some (.lst (ns.map V.int))) : Dp K H (.ref a) (dInts ns) := .lst (SqL.of h) (dpAll_ints ns)
theorem dp_tup {a : Addr} {ns : List Int} (h : H a = some (.tup (ns.map V.int))) : Dp K H (.ref a) (dTup ns) := .tup (SqT.of h) (dpAll_ints ns)
theorem dpAll_pts : ∀ {vs : List V} {ps : List Pt}, Paired (fun v p => RPt p v H) vs ps → DpAll K H vs (ps.map dPt)
  | _, _, .nil => .nil
  | _, _, .cons h r => by
    obtain ⟨a, rfl, q⟩ := h
    exact .cons (dp_pt q) (dpAll_pts r)
theorem dp_pts {a : Addr} {ps : List Pt} (h : LstAt RPt H a ps) : Dp K H (.ref a) (dPts ps) := by
  obtain ⟨vs, h1, h2⟩ := h
  exact .lst (SqL.of h1) (dpAll_pts h2)
end
theorem canLay_ints : ∀ ns : List Int, PyData.canLayAll0 (ns.map PyData.int) = true
  | [] => rfl
  | n :: ns => by simp only [List.map_cons, PyData.canLayAll0, PyData.canLay0, canLay_ints ns, Bool.and_self]
theorem depth_ints : ∀ ns : List Int, PyData.depthAll (ns.map PyData.int) = 0
  | [] => by simp only [List.map_nil, PyData.depthAll]
  | n :: ns => by simp only [List.map_cons, PyData.depthAll, PyData.depth, depth_ints ns]; rfl
theorem eqv_ints : ∀ ns ms : List Int, PyData.eqvAll (ns.map PyData.int) (ms.map PyData.int) = decide (ns = ms)
  | [], [] => by simp [PyData.eqvAll]
  | [], m :: ms => by simp [PyData.eqvAll]
  | n :: ns, [] => by simp [PyData.eqvAll]
  | n :: ns, m :: ms => by
    simp only [List.map_cons, PyData.eqvAll, PyData.eqv, eqv_ints ns ms]
    rw [Bool.eq_iff_iff]; simp
theorem shaped_ints (ns : List Int) : SeqAt.shaped (dInts ns) = true := by
  unfold SeqAt.shaped dInts
  simp only [PyData.canLay0, canLay_ints, PyData.depth, depth_ints]; decide
theorem shaped_tup (ns : List Int) : SeqAt.shaped (dTup ns) = true := by
  unfold SeqAt.shaped dTup
  simp only [PyData.canLay0, canLay_ints, PyData.depth, depth_ints]; decide
theorem shaped_pt (p : Pt) : SeqAt.shaped (dPt p) = true := shaped_tup [p.x, p.y]
theorem canLay_pts : ∀ ps : List Pt, PyData.canLayAll0 (ps.map dPt) = true
  | [] => rfl
  | p :: ps => by
    have h : PyData.canLay0 (dPt p) = true := by unfold dPt; simp only [PyData.canLay0]; exact canLay_ints [p.x, p.y]
    simp only [List.map_cons, PyData.canLayAll0, canLay_pts ps, h, Bool.and_self]
theorem depth_pts : ∀ ps : List Pt, PyData.depthAll (ps.map dPt) ≤ 1
  | [] => by simp [PyData.depthAll]
  | p :: ps => by
    have h : PyData.depth (dPt p) = 1 := by unfold dPt; simp only [PyData.depth]; rw [show PyData.depthAll [PyData.int p.x, PyData.int p.y] = 0 from depth_ints [p.x, p.y]]
    have := depth_pts ps
    simp only [List.map_cons, PyData.depthAll, h]; omega
theorem shaped_pts (ps : List Pt) : SeqAt.shaped (dPts ps) = true := by
  have d := depth_pts ps
  have c : PyData.canLay0 (dPts ps) = true := by unfold dPts; simp only [PyData.canLay0, canLay_pts]
  have e : PyData.depth (dPts ps) ≤ 64 := by unfold dPts; simp only [PyData.depth]; omega
  exact Bool.and_eq_true_iff.mpr ⟨c, decide_eq_true e⟩
theorem eqv_pt (p q : Pt) : PyData.eqv (dPt p) (dPt q) = decide (p = q) := by
  unfold dPt
  simp only [PyData.eqv]
  rw [show PyData.eqvAll [PyData.int p.x, PyData.int p.y] [PyData.int q.x, PyData.int q.y] = decide ([p.x, p.y] = [q.x, q.y]) from eqv_ints [p.x, p.y] [q.x, q.y]]
  rw [decide_eq_decide]
  cases p; cases q; simp
theorem eqv_ptsAll : ∀ ps qs : List Pt, PyData.eqvAll (ps.map dPt) (qs.map dPt) = decide (ps = qs)
  | [], [] => by simp [PyData.eqvAll]
  | [], m :: ms => by simp [PyData.eqvAll]
  | n :: ns, [] => by simp [PyData.eqvAll]
  | n :: ns, m :: ms => by
    simp only [List.map_cons, PyData.eqvAll, eqv_pt, eqv_ptsAll ns ms]
    rw [Bool.eq_iff_iff]; simp
theorem eqv_pts (ps qs : List Pt) : PyData.eqv (dPts ps) (dPts qs) = decide (ps = qs) := by
  unfold dPts; simp only [PyData.eqv]; exact eqv_ptsAll ps qs
theorem eqv_list (ns ms : List Int) : PyData.eqv (dInts ns) (dInts ms) = decide (ns = ms) := by
  unfold dInts; simp only [PyData.eqv]; exact eqv_ints ns ms
theorem eqv_tup (ns ms : List Int) : PyData.eqv (dTup ns) (dTup ms) = decide (ns = ms) := by
  unfold dTup; simp only [PyData.eqv]; exact eqv_ints ns ms
section
variable {K : PySem.W.Frag} {σ : L2.St} {H : Hp} {ta tb te : TE} {c : TT} {t u z : TS} {B : Hp} {R Ra : RR} {N : L2.St → Hp → Prop}
theorem rv_eqD {x y : V} {d e : PyData} {b : Bool} (h1 : ∀ H1, Same H H1 → Dp K H1 x d) (h2 : ∀ H1, Same H H1 → Dp K H1 y e) (s1 : SeqAt.shaped d = true) (s2 : SeqAt.shaped e = true) (hb : PyData.eqv d e = b) : RV (rEqD K) x y H (isV (.bl b)) := fun H1 s Q q =>
  ⟨d, e, h1 H1 s, h2 H1 s, s1, s2, by rw [hb]; exact q _ H1 (Same.refl _) rfl⟩
theorem rv_neD {x y : V} {d e : PyData} {b : Bool} (h1 : ∀ H1, Same H H1 → Dp K H1 x d) (h2 : ∀ H1, Same H H1 → Dp K H1 y e) (s1 : SeqAt.shaped d = true) (s2 : SeqAt.shaped e = true) (hb : (!PyData.eqv d e) = b) : RV (rNeD K) x y H (isV (.bl b)) := fun H1 s Q q =>
  ⟨d, e, h1 H1 s, h2 H1 s, s1, s2, by rw [hb]; exact q _ H1 (Same.refl _) rfl⟩
/-- a, b = e -/
theorem s_set2 {i j : Nat} (h : EvP te σ H Ra) (k : ∀ v H1, Same H H1 → Ra v H1 → ∃ t x y, v = .ref t ∧ H1 t = some (.tup [x, y]) ∧ Run u ((σ.set i (some x)).set j (some y)) B H1 R N) : Run (tSeq (tAsg te (gTup K 2 (gCons (gName i) (gCons (gName j) gNil)))) u) σ B H R N := fun H1 e D q n =>
  h H1 e _ fun v H2 e2 hv => by
    obtain ⟨t, x, y, rfl, ht, r⟩ := k v H2 (e.trans e2) hv
    exact ⟨t, [x, y], rfl, SqT.of ht, rfl, x, [y], rfl, y, [], rfl, rfl, r H2 (Same.refl _) D q n⟩
theorem e_cat {α : Type} {F : α → RR} [mf : ∀ x, Mono (F x)] {xs ys : List α} (ha : EvP ta σ H (RLst F xs)) (hb : ∀ H1, Same H H1 → EvP tb σ H1 (RLst F ys)) (hz : xs.length + ys.length ≤ 10000000) : EvP (tOp rCat ta tb) σ H (RLst F (xs ++ ys)) :=
  ev_opG ha hb fun x y H1 s h1 h2 H2 s2 Q q => by
    obtain ⟨a, rfl, vs, g1, g2⟩ := h1
    obtain ⟨b, rfl, us, f1, f2⟩ := h2
    have l1 := g2.len
    have l2 := f2.len
    refine ⟨a, b, vs, us, rfl, rfl, s2 _ _ g1, s2 _ _ f1, Nat.le_trans (by omega : _ ≤ 10000000) (by decide), fun p hp => q _ _ (Same.new hp) ⟨p, rfl, vs ++ us, upd_same, ?_⟩⟩
    have m := fun (v : V) (x : α) (q : F x v H1) => (mf x).mono (s2.trans (Same.new (o := .lst (vs ++ us)) hp)) q
    exact (g2.monoP m).app (f2.monoP m)
/-- a list display of one -/
theorem e_lst1 {α : Type} {F : α → RR} [mf : ∀ x, Mono (F x)] {x : α} (h : EvP te σ H (F x)) : EvP (tLst (tCons te tNil)) σ H (RLst F [x]) := fun H1 e Q q =>
  h H1 e _ fun v H2 e2 hv => ⟨by show 1 ≤ sizeLine; decide, fun p hp => q _ _ (e2.trans (Same.new hp)) ⟨p, rfl, [v], upd_same, .cons ((mf x).mono (Same.new hp) hv) .nil⟩⟩
theorem e_ixF {α : Type} {F : α → RR} [mf : ∀ x, Mono (F x)] {a : Addr} {L : List α} {i : Int} {k : Nat} {x : α} (ha : EvP ta σ H (isV (.ref a))) (hb : EvP tb σ H (isV (.int i))) (h : LstAt F H a L) (hi : i = (k : Int)) (hx : L[k]? = some x) : EvP (tOp (rIxL K) ta tb) σ H (F x) := by
  obtain ⟨vs, h1, h2⟩ := h
  obtain ⟨v, hv, f⟩ := h2.get2 hx
  subst hi
  exact (e_ixL ha hb h1 (atI_nat hv)).imp fun w H1 s e => by cases e; exact (mf x).mono s f
end
theorem sides_app {ps : List Pt} (h : ps ≠ []) : LsGeo.sides ps = ps.zip (ps.drop 1) ++ [(Ge.at_ ps (ps.length - 1), Ge.at_ ps 0)] := by
  have hp := List.length_pos_iff.mpr h
  refine List.ext_getElem? fun i => ?_
  by_cases hi : i < ps.length
  · rw [Ge.sides_get hi]
    by_cases e : i + 1 = ps.length
    · rw [List.getElem?_append_right (by simp; omega)]
      have z : i - (ps.zip (ps.drop 1)).length = 0 := by simp; omega
      rw [z]
      have n : Ar.nx ps.length i = 0 := by unfold Ar.nx; rw [if_pos e]
      have e' : ps.length - 1 = i := by omega
      rw [n, e']; rfl
    · rw [List.getElem?_append_left (by simp; omega)]
      symm
      rw [List.getElem?_zip_eq_some]
      refine ⟨Ge.at_get hi, ?_⟩
      have n : Ar.nx ps.length i = i + 1 := by unfold Ar.nx; rw [if_neg e]
      rw [n, List.getElem?_drop, Nat.add_comm]
      exact Ge.at_get (by omega)
  · rw [List.getElem?_eq_none (by rw [Ge.sides_len]; omega), List.getElem?_eq_none (by simp; omega)]
section
variable {P : Program} {w : World} {K : PySem.W.Frag} {mg : Str → Option Value} {base : Heap} {A : Ad}
def bps (ps : List Pt) : Prop := ∀ p ∈ ps, bp p
def sp_ways_of (K : PySem.W.Frag) (A : Ad) : Sp := pure fun vs H R => ∃ a ps, vs = [.ref a] ∧ LstAt RPt H a ps ∧ ps.length ≤ 1000 ∧ R = RLst RWay (ps.zip (ps.drop 1))
def sp_sides_of (K : PySem.W.Frag) (A : Ad) : Sp := pure fun vs H R => ∃ a ps, vs = [.ref a] ∧ LstAt RPt H a ps ∧ ps.length ≤ 1000 ∧ ps ≠ [] ∧ R = RLst RWay (LsGeo.sides ps)
def sp_side_fits (K : PySem.W.Frag) (A : Ad) : Sp := pure fun vs H R => ∃ (a : Addr) (s : List (Pt × Pt)) (i j : Nat), vs = [.ref a, .int i, .int j] ∧ LstAt RWay H a s ∧ i < s.length ∧ j < s.length ∧ (∀ w ∈ s, bp w.1 ∧ bp w.2) ∧ R = isV (.bl (Ge.fits s i j))
def sp_is_simple (K : PySem.W.Frag) (A : Ad) : Sp := pure fun vs H R => ∃ a ps, vs = [.ref a] ∧ LstAt RPt H a ps ∧ ps.length ≤ 64 ∧ bps ps ∧ R = isV (.bl (Ge.isSimple ps))
def sp_twice_area (K : PySem.W.Frag) (A : Ad) : Sp := pure fun vs H R => ∃ a ps, vs = [.ref a] ∧ LstAt RPt H a ps ∧ ps.length ≤ 1000 ∧ ps ≠ [] ∧ bps ps ∧ R = isV (.int (LsGeo.area2 ps))
def sp_leftwards (K : PySem.W.Frag) (A : Ad) : Sp := pure fun vs H R => ∃ a ps, vs = [.ref a] ∧ LstAt RPt H a ps ∧ ps.length ≤ 1000 ∧ ps ≠ [] ∧ bps ps ∧ R = RLst RPt (LsBook.leftwards ps)
def isLineP (ps : List Pt) : Bool := decide (2 ≤ ps.length) && (ps.zip (ps.drop 1)).all fun w => !decide (w.1 = w.2)
def sp_is_line (K : PySem.W.Frag) (A : Ad) : Sp := pure fun vs H R => ∃ a ps, vs = [.ref a] ∧ LstAt RPt H a ps ∧ ps.length ≤ 1000 ∧ R = isV (.bl (isLineP ps))
theorem ok_ways_of (T : Txt K mg A)  {f : Addr} {fd : FuncData} (F : C8.Def K mg "ways_of" s_ways_of f fd) (bb : Binds K fd ["places"] []) : C8.Cal P w K mg base 1 "ways_of" (sp_ways_of K A) [] := by
  refine C8.cal0 F bb .nil sc_ways_of (fun vs H Q E h => ?_) (fun cdv Ar outer s H vs Q E hr h => ?_)
  · obtain ⟨R, ⟨a, ps, rfl, _⟩, _⟩ := h
    rfl
  · obtain ⟨R, ⟨a, ps, rfl, hA, hl, rfl⟩, k⟩ := h
    have hA' := id hA
    obtain ⟨vs, h1, h2⟩ := hA'
    have h3 := h2.len
    refine ⟨_, (pss_one (ps_ret (pe_lc (own := [("at", 1)]) (tt := tYes) rfl sc_ways_of.nd (pi_range1 rfl T.range (pa_cons (pe_op op_sub (pe_callB call_len_seq (by rfl) T.len (by decide +kernel) (pa_cons (pv 0) pa_nil)) pe_int) pa_nil)) (blkOk_by (own := [("at", 1)]) (N := N_ways_of) (sc := C8.fnScope s_ways_of) (by decide +kernel)) (fun _ _ _ _ _ => (pg_name (i := 1) sc_ways_of.nd rfl (Or.inl rfl))) (fun _ _ _ _ _ => pts_nil) (fun _ _ _ _ _ => (pe_tup (pa_cons (pe_ix (r := rIxL K) ix_list (pv 0) (pv 1) (fun _ _ => rfl)) (pa_cons (pe_ix (r := rIxL K) ix_list (pv 0) (pe_op op_add (pv 1) pe_int) (fun _ _ => rfl)) pa_nil))))))), body (s_ret (Same.refl _) ?_) k⟩
    refine EvP.imp (e_lcR (m := (ps.length : Int) - 1) (n := ps.length - 1) (fun _ => true) (fun i => Ro RWay ((ps.zip (ps.drop 1))[i]?)) (ea_cons (e_sub ((e_lenS (ev_var rfl) h1).is (by rw [h3])) ev_c) ea_nil) (by omega) (by omega) (by omega) (fun _ => rfl) (fun _ _ _ _ => et_yes) (fun i H' hi s _ => ?_)) fun v H1 _ r => rlst_all (by simp) r
    have g1 := List.getElem?_eq_getElem (show i < ps.length by omega)
    have g2 := List.getElem?_eq_getElem (show i + 1 < ps.length by omega)
    have gz : (ps.zip (ps.drop 1))[i]? = some (ps[i]'(by omega), ps[i + 1]'(by omega)) := by
      rw [List.getElem?_zip_eq_some]
      exact ⟨g1, by rw [List.getElem?_drop, Nat.add_comm]; exact g2⟩
    rw [gz]
    obtain ⟨v1, e1, f1⟩ := h2.get2 g1
    obtain ⟨v2, e2, f2⟩ := h2.get2 g2
    obtain ⟨a1, rfl, f1⟩ := f1
    obtain ⟨a2, rfl, f2⟩ := f2
    refine (e_tup (vs := [.ref a1, .ref a2]) (ea_cons (e_ixL (ev_var rfl) (ev_var rfl) (s _ _ h1) (atI_nat e1)) (ea_cons (e_ixL (ev_var rfl) (e_add (ev_var rfl) ev_c) (s _ _ h1) (atI_nat (j := i + 1) e2)) ea_nil)) (by show 2 ≤ 1000000; decide)).imp fun v H1 e q => ?_
    obtain ⟨t, rfl, ht⟩ := q
    exact ⟨t, rfl, a1, a2, ht, (f1.mono s).mono e, (f2.mono s).mono e⟩
theorem ok_sides_of (T : Txt K mg A) (c_ways_of : C8.Cal P w K mg base 1 "ways_of" (sp_ways_of K A) []) {f : Addr} {fd : FuncData} (F : C8.Def K mg "sides_of" s_sides_of f fd) (bb : Binds K fd ["ring"] []) : C8.Cal P w K mg base 2 "sides_of" (sp_sides_of K A) [] := by
  refine C8.cal0 F bb .nil sc_sides_of (fun vs H Q E h => ?_) (fun cdv Ar outer s H vs Q E hr h => ?_)
  · obtain ⟨R, ⟨a, ps, rfl, _⟩, _⟩ := h
    rfl
  · obtain ⟨R, ⟨a, ps, rfl, hA, hl, hne, rfl⟩, k⟩ := h
    have hp := List.length_pos_iff.mpr hne
    rw [sides_app hne] at k
    refine ⟨_, (pss_one (ps_ret (pe_op op_cat (C8.pe_c c_ways_of hr (by decide) rfl (pa_cons (pv 0) pa_nil)) (pe_lst (pa_cons (pe_tup (pa_cons (pe_ix ix_list (pv 0) (pe_op op_sub (pe_callB call_len_seq (by rfl) T.len (by decide +kernel) (pa_cons (pv 0) pa_nil)) pe_int) (fun _ _ => rfl)) (pa_cons (pe_ix ix_list (pv 0) pe_int (fun _ _ => rfl)) pa_nil))) pa_nil))))), body (s_ret (Same.refl _) ?_) k⟩
    refine e_cat (e_callV (ea_v1 rfl) fun H1 e => ⟨a, ps, rfl, hA.mono e, hl, rfl⟩) (fun H1 s => e_lst1 ?_) (by simp; omega)
    have hA1 := hA.mono s
    obtain ⟨vs, h1, h2⟩ := id hA1
    have h3 := h2.len
    obtain ⟨v1, e1, f1⟩ := h2.get2 (Ge.at_get (l := ps) (i := ps.length - 1) (by omega))
    obtain ⟨v2, e2, f2⟩ := h2.get2 (Ge.at_get (l := ps) (i := 0) (by omega))
    obtain ⟨a1, rfl, f1⟩ := f1
    obtain ⟨a2, rfl, f2⟩ := f2
    refine (e_tup (vs := [.ref a1, .ref a2]) (ea_cons (e_ixL (ev_var rfl) ((e_sub (e_lenS (ev_var rfl) h1) ev_c).is (y := .int ((ps.length - 1 : Nat) : Int)) (congrArg V.int (by omega))) h1 (atI_nat e1)) (ea_cons (e_ixL (ev_var rfl) ev_c h1 (atI_nat (j := 0) e2)) ea_nil)) (by show 2 ≤ 1000000; decide)).imp fun v H2 e q => ?_
    obtain ⟨t, rfl, ht⟩ := q
    exact ⟨t, rfl, a1, a2, ht, f1.mono e, f2.mono e⟩
theorem ok_side_fits (T : Txt K mg A) (c_goes_back : C8.Cal P w K mg base 2 "goes_back" (sp_goes_back K A) []) (c_ways_meet : C8.Cal P w K mg base 3 "ways_meet" (sp_ways_meet K A) []) {f : Addr} {fd : FuncData} (F : C8.Def K mg "side_fits" s_side_fits f fd) (bb : Binds K fd ["sides", "one", "other"] []) : C8.Cal P w K mg base 4 "side_fits" (sp_side_fits K A) [] := by
  refine C8.cal0 F bb .nil sc_side_fits (fun vs H Q E h => ?_) (fun cdv Ar outer s H vs Q E hr h => ?_)
  · obtain ⟨R, ⟨a, s, i, j, rfl, _⟩, _⟩ := h
    rfl
  · obtain ⟨R, ⟨a, L, i, j, rfl, hA, hi, hj, hb, rfl⟩, k⟩ := h
    have g1 := List.getElem?_eq_getElem hi
    have g2 := List.getElem?_eq_getElem hj
    have b1 := hb _ (List.getElem_mem hi)
    have b2 := hb _ (List.getElem_mem hj)
    have fe : Ge.fits L i j = (if j = i + 1 then !Ge.goesBack L[i].1 L[i].2 L[j].2 else if i = 0 ∧ j + 1 = L.length then !Ge.goesBack L[j].1 L[j].2 L[i].2 else !LsGeo.meet L[i].1 L[i].2 L[j].1 L[j].2) := by
      unfold Ge.fits; rw [g1, g2]
    refine ⟨_, (pss_cons (ps_asg (pe_ix ix_list (pv 0) (pv 1) (fun _ _ => rfl)) (pg_tup rfl (pgs_cons (pg_name (i := 3) sc_side_fits.nd rfl (Or.inl rfl)) (pgs_cons (pg_name (i := 4) sc_side_fits.nd rfl (Or.inl rfl)) pgs_nil)))) (pss_cons (ps_asg (pe_ix ix_list (pv 0) (pv 2) (fun _ _ => rfl)) (pg_tup rfl (pgs_cons (pg_name (i := 5) sc_side_fits.nd rfl (Or.inl rfl)) (pgs_cons (pg_name (i := 6) sc_side_fits.nd rfl (Or.inl rfl)) pgs_nil)))) (pss_cons (ps_if (pt_cmpR op_eq (pv 2) (pe_op op_add (pv 1) pe_int) (nomark _)) (pss_one (ps_ret (pe_not (C8.pe_c c_goes_back hr (by decide) rfl (pa_cons (pv 3) (pa_cons (pv 4) (pa_cons (pv 6) pa_nil))))))) pss_nil) (pss_cons (ps_if (PW.pt (pw_and (pt_cmpR op_eq (pv 1) pe_int (nomark _)) (pw_and1 (pt_cmpR op_eq (pv 2) (pe_op op_sub (pe_callB call_len_seq (by rfl) T.len (by decide +kernel) (pa_cons (pv 0) pa_nil)) pe_int) (nomark _))))) (pss_one (ps_ret (pe_not (C8.pe_c c_goes_back hr (by decide) rfl (pa_cons (pv 5) (pa_cons (pv 6) (pa_cons (pv 4) pa_nil))))))) pss_nil) (pss_one (ps_ret (pe_not (C8.pe_c c_ways_meet hr (by decide) rfl (pa_cons (pv 3) (pa_cons (pv 4) (pa_cons (pv 5) (pa_cons (pv 6) pa_nil)))))))))))), body (s_set2 (e_ixF (ev_var rfl) (ev_var rfl) hA rfl g1) fun v H1 s1 hv => ?_) k⟩
    obtain ⟨t1, rfl, pa, pb, ht1, hpa, hpb⟩ := hv
    refine ⟨t1, _, _, rfl, ht1, s_set2 (e_ixF (ev_var rfl) (ev_var rfl) (hA.mono s1) rfl g2) fun v H2 s2 hv => ?_⟩
    obtain ⟨t2, rfl, pc, pd, ht2, hpc, hpd⟩ := hv
    refine ⟨t2, _, _, rfl, ht2, ?_⟩
    have hpa := hpa.mono s2
    have hpb := hpb.mono s2
    have st := s1.trans s2
    obtain ⟨vs, hL, hP⟩ := id (hA.mono st)
    have hlen := hP.len
    refine s_when (et_test (e_eq (ev_var rfl) (e_add (ev_var rfl) ev_c))) (fun c => s_ret st ?_) fun c => s_when (et_and (et_test (e_eq (ev_var rfl) ev_c)) fun _ => et_test (e_eq (ev_var rfl) (e_sub (e_lenS (ev_var rfl) hL) ev_c))) (fun c2 => s_ret st ?_) fun c2 => s_ret st ?_
    · refine (e_notV (e_callV (ea_v3 rfl rfl rfl) fun H3 e => ⟨pa, pb, pd, _, _, _, rfl, hpa.mono e, hpb.mono e, hpd.mono e, b1.1, b1.2, b2.2, rfl⟩)).is ?_
      have c' : j = i + 1 := by have := of_decide_eq_true c; omega
      show _ = V.bl (Ge.fits L i j)
      rw [fe, if_pos c']
    · refine (e_notV (e_callV (ea_v3 rfl rfl rfl) fun H3 e => ⟨pc, pd, pb, _, _, _, rfl, hpc.mono e, hpd.mono e, hpb.mono e, b2.1, b2.2, b1.2, rfl⟩)).is ?_
      have c' : ¬ j = i + 1 := by have := of_decide_eq_false c; omega
      rw [Bool.and_eq_true, decide_eq_true_eq, decide_eq_true_eq] at c2
      have c2' : i = 0 ∧ j + 1 = L.length := by omega
      show _ = V.bl (Ge.fits L i j)
      rw [fe, if_neg c', if_pos c2']
    · refine (e_notV (e_callV (ea_v4 rfl rfl rfl rfl) fun H3 e => ⟨pa, pb, pc, pd, _, _, _, _, rfl, hpa.mono e, hpb.mono e, hpc.mono e, hpd.mono e, b1.1, b1.2, b2.1, b2.2, rfl⟩)).is ?_
      have c' : ¬ j = i + 1 := by have := of_decide_eq_false c; omega
      rw [Bool.and_eq_false_iff, decide_eq_false_iff_not, decide_eq_false_iff_not] at c2
      have c2' : ¬ (i = 0 ∧ j + 1 = L.length) := by omega
      show _ = V.bl (Ge.fits L i j)
      rw [fe, if_neg c', if_neg c2']
end
end Wk
end
/-! ### WSh3 -/
section
set_option Elab.async false
set_option linter.all false
set_option maxRecDepth 100000
set_option maxHeartbeats 2000000
namespace Wk
open PySem PySem.Spec PyProof.Rows L2
open LsGeo (Pt)
section
variable {P : Program} {w : World} {K : PySem.W.Frag} {mg : Str → Option Value} {base : Heap} {A : Ad} {σ : L2.St} {H : Hp} {ta tb te : TE}
theorem paired_mapR {α β γ : Type} {F : α → β → Prop} {G : α → γ → Prop} {f : β → γ} : ∀ {as : List α} {bs : List β}, Paired F as bs → (∀ a b, F a b → G a (f b)) → Paired G as (bs.map f)
  | _, _, .nil, _ => .nil
  | _, _, .cons h r, k => .cons (k _ _ h) (paired_mapR r k)
/-- len(set(l)) of a list of places: how many of them are different -/
def isLen (ps : List Pt) : RR := fun v _ => ∃ n : Nat, v = .int n ∧ n ≤ ps.length ∧ (n = ps.length ↔ ps.Nodup)
instance (ps : List Pt) : Mono (isLen ps) := ⟨fun _ h => h⟩
theorem nodup_xy : ∀ {ps : List Pt}, (ps.map fun p => (p.x, p.y)).Nodup ↔ ps.Nodup := fun {ps} => by
  unfold List.Nodup
  rw [List.pairwise_map]
  constructor
  · intro h; exact h.imp fun q z => q (by rw [z])
  · intro h; exact h.imp fun {a b} q z => q (by cases a; cases b; simp at z; simp; exact z)
theorem e_lenSet {a : Addr} {ps : List Pt} (ha : EvP ta σ H (isV (.ref a))) (h : LstAt RPt H a ps) (hl : ps.length ≤ 64) : EvP (tLenSetP K ta) σ H (isLen ps) := fun H1 e Q q =>
  ha H1 e _ fun v H2 e2 hv => by
    cases hv
    obtain ⟨as, h1, h2⟩ := pts_iff.mp (h.mono (e.trans e2))
    have l2 := h2.len
    refine ⟨a, as, ps.map fun p => (p.x, p.y), rfl, SqL.of h1, ?_, by omega, fun n h3 h4 => q _ H2 e2 ⟨n, rfl, by simpa using h3, ?_⟩⟩
    · exact paired_mapR (f := fun p : Pt => (p.x, p.y)) h2 fun a p h => h
    · rw [List.length_map] at h4
      exact h4.trans nodup_xy
theorem isSimple_eq (ps : List Pt) : Ge.isSimple ps = (decide (3 ≤ ps.length) && (decide ps.Nodup && (List.range ps.length).all fun i => (List.range ps.length).all fun j => !decide (i < j) || Ge.fits (LsGeo.sides ps) i j)) := rfl
theorem simp_true {ps : List Pt} (h3 : 3 ≤ ps.length) (nd : ps.Nodup) (h : ∀ i j, i < j → j < ps.length → Ge.fits (LsGeo.sides ps) i j = true) : Ge.isSimple ps = true := by
  rw [isSimple_eq]
  simp only [Bool.and_eq_true, decide_eq_true_eq, List.all_eq_true, List.mem_range, Bool.or_eq_true, Bool.not_eq_true', decide_eq_false_iff_not]
  refine ⟨h3, nd, fun i _ j hj => ?_⟩
  by_cases q : i < j
  · exact .inr (h i j q hj)
  · exact .inl q
theorem simp_false {ps : List Pt} (h : ¬ 3 ≤ ps.length ∨ ¬ ps.Nodup ∨ ∃ i j, i < j ∧ j < ps.length ∧ Ge.fits (LsGeo.sides ps) i j = false) : Ge.isSimple ps = false := by
  rw [Bool.eq_false_iff]
  intro z
  rw [isSimple_eq] at z
  simp only [Bool.and_eq_true, decide_eq_true_eq, List.all_eq_true, List.mem_range, Bool.or_eq_true, Bool.not_eq_true', decide_eq_false_iff_not] at z
  rcases h with h | h | ⟨i, j, h1, h2, h3⟩
  · exact h z.1
  · exact h z.2.1
  · rcases z.2.2 i (by omega) j h2 with q | q
    · exact q h1
    · rw [h3] at q; cases q
theorem side_bp {ps : List Pt} (h : bps ps) : ∀ w ∈ LsGeo.sides ps, bp w.1 ∧ bp w.2 := fun w hw => by
  have m := Ge.mem_sides hw
  exact ⟨h _ m.1, h _ m.2⟩
theorem ok_is_simple (T : Txt K mg A) (c_side_fits : C8.Cal P w K mg base 4 "side_fits" (sp_side_fits K A) []) (c_sides_of : C8.Cal P w K mg base 2 "sides_of" (sp_sides_of K A) []) {f : Addr} {fd : FuncData} (F : C8.Def K mg "is_simple" s_is_simple f fd) (bb : Binds K fd ["ring"] []) : C8.Cal P w K mg base 5 "is_simple" (sp_is_simple K A) [] := by
  refine C8.cal0 F bb .nil sc_is_simple (fun vs H Q E h => ?_) (fun cdv Ar outer s H vs Q E hr h => ?_)
  · obtain ⟨R, ⟨a, ps, rfl, _⟩, _⟩ := h
    rfl
  · obtain ⟨R, ⟨a, ps, rfl, hA, hl, hb, rfl⟩, k⟩ := h
    obtain ⟨vs, h1, h2⟩ := id hA
    have hlen := h2.len
    refine ⟨_, (pss_cons (ps_if (PW.pt (pw_or (pt_cmpR op_lt (pe_callB call_len_seq (by rfl) T.len (by decide +kernel) (pa_cons (pv 0) pa_nil)) pe_int (nomark _)) (pw_or1 (pt_cmpR op_lt (pe_lenSetP rfl hr.units T.len T.set (pv 0)) (pe_callB call_len_seq (by rfl) T.len (by decide +kernel) (pa_cons (pv 0) pa_nil)) (nomark _))))) (pss_one (ps_ret pe_bl)) pss_nil) (pss_cons (ps_set (i := 1) sc_is_simple.nd rfl (Or.inl rfl) (C8.pe_c c_sides_of hr (by decide) rfl (pa_cons (pv 0) pa_nil))) (pss_cons (ps_for PassesOwn.never rfl (pi_range1 rfl T.range (pa_cons (pe_callB call_len_seq (by rfl) T.len (by decide +kernel) (pa_cons (pv 1) pa_nil)) pa_nil)) (pg_name (i := 2) sc_is_simple.nd rfl (Or.inl rfl)) (pss_one (ps_for PassesOwn.never rfl (pi_range2 rfl T.range (pa_cons (pe_op op_add (pv 2) pe_int) (pa_cons (pe_callB call_len_seq (by rfl) T.len (by decide +kernel) (pa_cons (pv 1) pa_nil)) pa_nil))) (pg_name (i := 3) sc_is_simple.nd rfl (Or.inl rfl)) (pss_one (ps_if (pt_not (pt_val (C8.pe_c c_side_fits hr (by decide) rfl (pa_cons (pv 1) (pa_cons (pv 2) (pa_cons (pv 3) pa_nil)))))) (pss_one (ps_ret pe_bl)) pss_nil))))) (pss_one (ps_ret pe_bl))))), body (s_when (b := decide (ps.length < 3) || !decide ps.Nodup) (et_or ((et_test (e_lt (e_lenS (ev_var rfl) h1) ev_c)).is (by rw [hlen, decide_eq_decide]; omega)) fun _ => et_test (ev_opG (e_lenSet (ev_var rfl) hA hl) (fun H1 s => e_lenS (ev_var rfl) (s _ _ h1)) fun x y H1 s hx hy => ?_)) (fun c => s_ret (Same.refl _) (ev_c.is ?_)) fun c => ?_) k⟩
    · obtain ⟨n, rfl, n1, n2⟩ := hx
      cases hy
      have e : decide ((n : Int) < (vs.length : Int)) = !decide ps.Nodup := by
        rw [hlen, Bool.eq_iff_iff]
        simp only [decide_eq_true_eq, Bool.not_eq_true', decide_eq_false_iff_not]
        rw [← n2]; omega
      rw [← e]
      exact rv_I0
    · refine congrArg V.bl (simp_false ?_).symm
      rw [Bool.or_eq_true, decide_eq_true_eq, Bool.not_eq_true', decide_eq_false_iff_not] at c
      rcases c with c | c
      · exact .inl (by omega)
      · exact .inr (.inl c)
    · rw [Bool.or_eq_false_iff, decide_eq_false_iff_not, Bool.not_eq_false', decide_eq_true_eq] at c
      have hne : ps ≠ [] := by intro z; subst z; simp at c
      refine s_set (e_callV (ea_v1 rfl) fun H1 e => ⟨a, ps, rfl, hA.mono e, by omega, hne, rfl⟩) fun v H1 s1 hv => ?_
      obtain ⟨b, rfl, hS⟩ := hv
      obtain ⟨us, g1, g2⟩ := id hS
      have glen : us.length = ps.length := by rw [g2.len, Ge.sides_len]
      refine s_seq (M := fun σ' _ => ∀ i j, i < j → j < ps.length → Ge.fits (LsGeo.sides ps) i j = true) (s_forQR (n0 := ps.length) s1 (ea_cons (e_lenS (ev_var rfl) g1) ea_nil) (by rw [glen]; rfl) (by rw [glen]; omega)
        (fun i σ' => (∃ v1 v2, σ' = [some (.ref a), some (.ref b), v1, v2]) ∧ ∀ i' j, i' < i → i' < j → j < ps.length → Ge.fits (LsGeo.sides ps) i' j = true) ⟨⟨_, _, rfl⟩, fun i' j h => by omega⟩ (fun i σ' H' hi s' p => ?_) fun σ' H' s' p => ?_) fun σ' H2 s2 hM => ?_
      · obtain ⟨⟨v1, v2, rfl⟩, hp⟩ := p
        refine s_forQR2 (a := (i : Int) + 1) (b := (ps.length : Int)) (n0 := ps.length - (i + 1)) (Same.refl _) (ea_cons (e_add (ev_var rfl) ev_c) (ea_cons ((e_lenS (ev_var rfl) (s' _ _ g1)).is (by rw [glen])) ea_nil)) (by omega) (by omega)
          (fun m σ' => (∃ v2, σ' = [some (.ref a), some (.ref b), some (.int i), v2]) ∧ ∀ j, i < j → j < i + 1 + m → Ge.fits (LsGeo.sides ps) i j = true) ⟨⟨_, rfl⟩, fun j h1 h2 => by omega⟩ (fun m σ' H3 hm s3 p3 => ?_) fun σ' H3 s3 p3 => ?_
        · obtain ⟨⟨v2, rfl⟩, hp3⟩ := p3
          refine s_if (b := !Ge.fits (LsGeo.sides ps) i (i + 1 + m)) (et_not (et_B (e_callV (ea_v3 rfl rfl rfl) fun H4 e => ⟨b, LsGeo.sides ps, i, i + 1 + m, ?_, ((hS.mono s').mono s3).mono e, by rw [Ge.sides_len]; omega, by rw [Ge.sides_len]; omega, side_bp hb, rfl⟩))) (fun c2 => s_ret (Same.refl _) (ev_c.is ?_)) fun c2 => s_nx fun H4 e => ⟨e, ⟨_, rfl⟩, fun j h1 h2 => ?_⟩
          · show [V.ref b, V.int i, V.int ((i : Int) + 1 + (m : Nat))] = [V.ref b, V.int i, V.int ((i + 1 + m : Nat) : Int)]
            have z : (i : Int) + 1 + (m : Nat) = ((i + 1 + m : Nat) : Int) := by omega
            rw [z]
          · refine congrArg V.bl (simp_false (.inr (.inr ⟨i, i + 1 + m, by omega, by omega, ?_⟩))).symm
            simpa using c2
          · by_cases q : j = i + 1 + m
            · subst q; simpa using c2
            · exact hp3 j h1 (by omega)
        · obtain ⟨⟨v2, rfl⟩, hp3⟩ := p3
          refine ⟨⟨_, _, rfl⟩, fun i' j h1 h2 h3 => ?_⟩
          by_cases q : i' = i
          · subst q; exact hp3 j h2 (by omega)
          · exact hp i' j (by omega) h2 h3
      · exact fun i j h1 h2 => p.2 i j (by omega) h1 h2
      · refine s_ret s2 (ev_c.is ?_)
        exact congrArg V.bl (simp_true (by omega) c.2 hM).symm
theorem area2_sum (ps : List Pt) : LsGeo.area2 ps = ((LsGeo.sides ps).map fun s => s.1.x * s.2.y - s.1.y * s.2.x).sum := by
  unfold LsGeo.area2
  have e : ((LsGeo.sides ps).map fun (s : Pt × Pt) => s.1.x * s.2.y - s.2.x * s.1.y) = (LsGeo.sides ps).map fun s => s.1.x * s.2.y - s.1.y * s.2.x := by
    refine List.map_congr_left fun s _ => ?_
    rw [Int.mul_comm s.2.x]
  rw [e]
  rfl
def areaG (w : Pt × Pt) : RR := isV (.int (w.1.x * w.2.y - w.1.y * w.2.x))
instance (x : Pt × Pt) : Mono (areaG x) := ⟨fun _ h => h⟩
instance (x : Pt × Pt) : Stab (areaG x) := ⟨fun _ h => h⟩
theorem ok_twice_area (T : Txt K mg A) (c_sides_of : C8.Cal P w K mg base 2 "sides_of" (sp_sides_of K A) []) {f : Addr} {fd : FuncData} (F : C8.Def K mg "twice_area" s_twice_area f fd) (bb : Binds K fd ["ring"] []) : C8.Cal P w K mg base 3 "twice_area" (sp_twice_area K A) [] := by
  refine C8.cal0 F bb .nil sc_twice_area (fun vs H Q E h => ?_) (fun cdv Ar outer s H vs Q E hr h => ?_)
  · obtain ⟨R, ⟨a, ps, rfl, _⟩, _⟩ := h
    rfl
  · obtain ⟨R, ⟨a, ps, rfl, hA, hl, hne, hb, rfl⟩, k⟩ := h
    refine ⟨_, (pss_one (ps_ret (pe_callB (cr_sum rfl) (by rfl) T.sum (by decide +kernel) (pa_cons (pe_lc (own := [("p", 1), ("q", 2)]) (tt := tYes) rfl sc_twice_area.nd (pi_list (C8.pe_c c_sides_of hr (by decide) rfl (pa_cons (pv 0) pa_nil))) (blkOk_by (own := [("p", 1), ("q", 2)]) (N := N_twice_area) (sc := C8.fnScope s_twice_area) (by decide +kernel)) (fun _ _ _ _ _ => (pg_tupK (K := K) (n := 2) rfl rfl (pgs_cons (pg_name (i := 1) sc_twice_area.nd rfl (Or.inl rfl)) (pgs_cons (pg_name (i := 2) sc_twice_area.nd rfl (Or.inl rfl)) pgs_nil)))) (fun _ _ _ _ _ => pts_nil) (fun _ _ _ _ _ => (pe_op op_sub (pe_op op_mul (pe_ix (r := rIxT K) ix_tup (pv 1) pe_int (fun _ _ => rfl)) (pe_ix (r := rIxT K) ix_tup (pv 2) pe_int (fun _ _ => rfl))) (pe_op op_mul (pe_ix (r := rIxT K) ix_tup (pv 1) pe_int (fun _ _ => rfl)) (pe_ix (r := rIxT K) ix_tup (pv 2) pe_int (fun _ _ => rfl)))))) pa_nil)))), body (s_ret (Same.refl _) (e_cb (ea_consG (R := RLst areaG (LsGeo.sides ps)) ?_ fun _ _ => ea_nil) fun vs H1 e hv Q q => ?_)) k⟩
    · refine (e_lcF2 (F := RWay) (G := areaG) (L := LsGeo.sides ps) (fun _ => true) (e_callV (ea_v1 rfl) fun H1 e => ⟨a, ps, rfl, hA.mono e, hl, hne, rfl⟩) (by rw [Ge.sides_len]; omega) (fun _ _ => rfl) fun z v H2 hz hm s => ?_).imp fun v H1 _ r => by rw [List.filter_eq_self.mpr fun _ _ => rfl] at r; exact r
      obtain ⟨t, rfl, p, q, ht, hp, hq⟩ := hz
      have bz := side_bp hb z hm
      refine ⟨t, _, _, rfl, ht, fun H' s' => ⟨et_yes, fun _ => ?_⟩⟩
      have hp' := s' _ _ hp
      have hq' := s' _ _ hq
      unfold bp at bz
      exact e_sub (e_mul (e_ixT0 (ev_var rfl) hp') (e_ixT1 (ev_var rfl) hq') (by unfold CMul; omega)) (e_mul (e_ixT1 (ev_var rfl) hp') (e_ixT0 (ev_var rfl) hq') (by unfold CMul; omega))
    · obtain ⟨v, r, rfl, ⟨b, rfl, us, g1, g2⟩, hr⟩ := hv
      cases hr
      have e2 : us = ((LsGeo.sides ps).map fun s => s.1.x * s.2.y - s.1.y * s.2.x).map V.int := by
        rw [vals_map (g := fun (w : Pt × Pt) => V.int (w.1.x * w.2.y - w.1.y * w.2.x)) g2, List.map_map]; rfl
      rw [e2] at g1
      exact ⟨b, _, rfl, SqL.of g1, q _ H1 (Same.refl _) (by rw [area2_sum]; rfl)⟩
theorem ok_leftwards (T : Txt K mg A) (c_twice_area : C8.Cal P w K mg base 3 "twice_area" (sp_twice_area K A) []) {f : Addr} {fd : FuncData} (F : C8.Def K mg "leftwards" s_leftwards f fd) (bb : Binds K fd ["ring"] []) : C8.Cal P w K mg base 4 "leftwards" (sp_leftwards K A) [] := by
  refine C8.cal0 F bb .nil sc_leftwards (fun vs H Q E h => ?_) (fun cdv Ar outer s H vs Q E hr h => ?_)
  · obtain ⟨R, ⟨a, ps, rfl, _⟩, _⟩ := h
    rfl
  · obtain ⟨R, ⟨a, ps, rfl, hA, hl, hne, hb, rfl⟩, k⟩ := h
    obtain ⟨vs, h1, h2⟩ := id hA
    have hlen := h2.len
    refine ⟨_, (pss_cons (ps_if (pt_cmpR op_ge (C8.pe_c c_twice_area hr (by decide) rfl (pa_cons (pv 0) pa_nil)) pe_int (nomark _)) (pss_one (ps_ret (pv 0))) pss_nil) (pss_one (ps_ret (pe_op op_cat (pe_slice sl_list (pv 0) po_none (po_some pe_int)) (pe_listRev rfl T.list T.reversed (pe_slice sl_list (pv 0) (po_some pe_int) po_none)))))), body (s_when (et_test (e_ge (e_callV (ea_v1 rfl) fun H1 e => ⟨a, ps, rfl, hA.mono e, hl, hne, hb, rfl⟩) ev_c)) (fun c => s_ret (Same.refl _) ((ev_var rfl).imp fun v H1 s e => ?_)) fun c => s_ret (Same.refl _) ?_) k⟩
    · cases e
      show RLst RPt (LsBook.leftwards ps) _ _
      unfold LsBook.leftwards
      rw [if_pos (of_decide_eq_true c)]
      exact ⟨a, rfl, hA.mono s⟩
    · obtain ⟨p, r, rfl⟩ := List.exists_cons_of_ne_nil hne
      have e0 : LsBook.leftwards (p :: r) = [p] ++ r.reverse := by
        unfold LsBook.leftwards
        rw [if_neg (of_decide_eq_false c)]; rfl
      show EvP _ _ H (RLst RPt (LsBook.leftwards (p :: r)))
      rw [e0]
      obtain ⟨v0, us, rfl, hv0, hus⟩ : ∃ v0 us, vs = v0 :: us ∧ RPt p v0 H ∧ Paired (fun v x => RPt x v H) us r := by
        cases h2 with
        | cons x y => exact ⟨_, _, rfl, x, y⟩
      refine e_cat (fun H1 e Q q => ?_) (fun H1 s H2 e Q q => ?_) (by simp at hl ⊢; omega)
      · refine ⟨_, rfl, 1, rfl, a, v0 :: us, rfl, SqL.of (e _ _ h1), fun b hb => q _ _ (Same.new hb) ⟨b, rfl, [v0], ?_, ?_⟩⟩
        · rw [upd_same]
          have z : cutV (v0 :: us) none (some 1) = [v0] := by
            unfold cutV
            rw [HT.sIx_none, show (some (1 : Int)) = some ((1 : Nat) : Int) from rfl, HT.sIx_nat]
            simp
          rw [z]
        · exact .cons ((inferInstance : Mono (RPt p)).mono (e.trans (Same.new hb)) hv0) .nil
      · refine ⟨_, rfl, 1, rfl, a, v0 :: us, rfl, SqL.of (e _ _ (s _ _ h1)), fun b hb => ⟨b, _, rfl, SqL.of upd_same, fun b2 hb2 => q _ _ ((Same.new hb).trans (Same.new hb2)) ⟨b2, rfl, us.reverse, ?_, ?_⟩⟩⟩
        · rw [upd_same]
          have z : cutV (v0 :: us) (some 1) none = us := by
            unfold cutV
            rw [HT.sIx_none, show (some (1 : Int)) = some ((1 : Nat) : Int) from rfl, HT.sIx_nat]
            have z1 : min 1 (v0 :: us).length = 1 := by simp
            rw [z1]
            simp
          rw [z]
        · exact Paired.rev (hus.monoP fun v x q => (inferInstance : Mono (RPt x)).mono ((s.trans e).trans ((Same.new hb).trans (Same.new hb2))) q)
theorem ok_is_line (T : Txt K mg A) (c_ways_of : C8.Cal P w K mg base 1 "ways_of" (sp_ways_of K A) []) {f : Addr} {fd : FuncData} (F : C8.Def K mg "is_line" s_is_line f fd) (bb : Binds K fd ["places"] []) : C8.Cal P w K mg base 2 "is_line" (sp_is_line K A) [] := by
  refine C8.cal0 F bb .nil sc_is_line (fun vs H Q E h => ?_) (fun cdv Ar outer s H vs Q E hr h => ?_)
  · obtain ⟨R, ⟨a, ps, rfl, _⟩, _⟩ := h
    rfl
  · obtain ⟨R, ⟨a, ps, rfl, hA, hl, rfl⟩, k⟩ := h
    obtain ⟨vs, h1, h2⟩ := id hA
    have hlen := h2.len
    refine ⟨_, (pss_cons (ps_if (pt_cmpR op_lt (pe_callB call_len_seq (by rfl) T.len (by decide +kernel) (pa_cons (pv 0) pa_nil)) pe_int (nomark _)) (pss_one (ps_ret pe_bl)) pss_nil) (pss_cons (ps_for PassesOwn.never rfl (pi_list (C8.pe_c c_ways_of hr (by decide) rfl (pa_cons (pv 0) pa_nil))) (pg_tup rfl (pgs_cons (pg_name (i := 1) sc_is_line.nd rfl (Or.inl rfl)) (pgs_cons (pg_name (i := 2) sc_is_line.nd rfl (Or.inl rfl)) pgs_nil))) (pss_one (ps_if (pt_cmpR (op_eqD hr.units) (pv 1) (pv 2) (nomark _)) (pss_one (ps_ret pe_bl)) pss_nil))) (pss_one (ps_ret pe_bl)))), body (s_when (et_test (e_lt (e_lenS (ev_var rfl) h1) ev_c)) (fun c => s_ret (Same.refl _) (ev_c.is ?_)) fun c => s_seq (M := fun σ' _ => ∀ i z, (ps.zip (ps.drop 1))[i]? = some z → z.1 ≠ z.2) (s_forQ2 (F := RWay) (L := ps.zip (ps.drop 1)) (Same.refl _) (e_callV (ea_v1 rfl) fun H1 e => ⟨a, ps, rfl, hA.mono e, hl, rfl⟩)
      (fun i σ' => (∃ v1 v2, σ' = [some (.ref a), v1, v2]) ∧ ∀ j z, j < i → (ps.zip (ps.drop 1))[j]? = some z → z.1 ≠ z.2) ⟨⟨_, _, rfl⟩, fun j z h => by omega⟩ (fun i z v σ' H' hz s hv p => ?_) fun σ' H' s p i z hz => p.2 i z ?_ hz) fun σ' H2 s2 hM => s_ret s2 (ev_c.is ?_)) k⟩
    · refine congrArg V.bl ?_
      have := of_decide_eq_true c
      unfold isLineP
      rw [decide_eq_false (by omega)]; rfl
    · obtain ⟨⟨v1, v2, rfl⟩, hp⟩ := p
      obtain ⟨t, rfl, pa, pb, ht, hpa, hpb⟩ := hv
      refine ⟨t, _, _, rfl, ht, s_if (b := decide (z.1 = z.2)) (et_test (ev_op (ev_var rfl) (ev_var rfl) (rv_eqD (fun H1 e => dp_pt (hpa.mono e)) (fun H1 e => dp_pt (hpb.mono e)) (shaped_pt _) (shaped_pt _) (eqv_pt _ _)))) (fun c2 => s_ret (Same.refl _) (ev_c.is ?_)) fun c2 => s_nx fun H4 e => ⟨e, ⟨_, _, rfl⟩, fun j y hj hy => ?_⟩⟩
      · refine congrArg V.bl ?_
        unfold isLineP
        symm
        rw [Bool.and_eq_false_iff]
        right
        rw [List.all_eq_false]
        exact ⟨z, List.mem_of_getElem? hz, by simpa using of_decide_eq_true c2⟩
      · by_cases q : j = i
        · subst q
          rw [hz] at hy; cases hy
          exact of_decide_eq_false c2
        · exact hp j y (by omega) hy
    · exact (List.getElem?_eq_some_iff.mp hz).1
    · refine congrArg V.bl ?_
      have := of_decide_eq_false c
      unfold isLineP
      symm
      rw [Bool.and_eq_true, decide_eq_true_eq, List.all_eq_true]
      refine ⟨by omega, fun z hz => ?_⟩
      obtain ⟨i, hi⟩ := List.mem_iff_getElem?.mp hz
      simpa using hM i z hi
/-- what kept_places hands over -/
def keptP (k : Nat) (ps : List Pt) : Option (List Pt) := if k = 0 then (if ps.length = 1 then some ps else none) else if k = 1 then (if isLineP ps = true then some ps else none) else if Ge.isSimple ps = true then some (LsBook.leftwards ps) else none
def RKept : Option (List Pt) → RR
  | none => isV .non
  | some ps => RLst RPt ps
def sp_kept_places (K : PySem.W.Frag) (A : Ad) : Sp := pure fun vs H R => ∃ (k : Nat) (a : Addr) (ps : List Pt), vs = [.int k, .ref a] ∧ LstAt RPt H a ps ∧ ps.length ≤ 64 ∧ bps ps ∧ R = RKept (keptP k ps)
theorem ok_kept_places (T : Txt K mg A) (c_is_line : C8.Cal P w K mg base 2 "is_line" (sp_is_line K A) []) (c_is_simple : C8.Cal P w K mg base 5 "is_simple" (sp_is_simple K A) []) (c_leftwards : C8.Cal P w K mg base 4 "leftwards" (sp_leftwards K A) []) {f : Addr} {fd : FuncData} (F : C8.Def K mg "kept_places" s_kept_places f fd) (bb : Binds K fd ["kind", "places"] []) : C8.Cal P w K mg base 6 "kept_places" (sp_kept_places K A) [] := by
  refine C8.cal0 F bb .nil sc_kept_places (fun vs H Q E h => ?_) (fun cdv Ar outer s H vs Q E hr h => ?_)
  · obtain ⟨R, ⟨kd, a, ps, rfl, _⟩, _⟩ := h
    rfl
  · obtain ⟨R, ⟨kd, a, ps, rfl, hA, hl, hb, rfl⟩, k⟩ := h
    obtain ⟨vs, h1, h2⟩ := id hA
    have hlen := h2.len
    refine ⟨_, (pss_cons (ps_if (pt_cmpR op_eq (pv 0) (C8.pe_gc rfl T.g_SPOT) (nomark _)) (pss_one (ps_ret (pe_ifExp (pt_cmpR op_eq (pe_callB call_len_seq (by rfl) T.len (by decide +kernel) (pa_cons (pv 1) pa_nil)) pe_int (nomark _)) (pv 1) pe_non))) pss_nil) (pss_cons (ps_if (pt_cmpR op_eq (pv 0) (C8.pe_gc rfl T.g_LINE) (nomark _)) (pss_one (ps_ret (pe_ifExp (pt_val (C8.pe_c c_is_line hr (by decide) rfl (pa_cons (pv 1) pa_nil))) (pv 1) pe_non))) pss_nil) (pss_one (ps_ret (pe_ifExp (pt_val (C8.pe_c c_is_simple hr (by decide) rfl (pa_cons (pv 1) pa_nil))) (C8.pe_c c_leftwards hr (by decide) rfl (pa_cons (pv 1) pa_nil)) pe_non))))), body (s_when (et_test (e_eq (ev_var rfl) ev_c)) (fun c => s_ret (Same.refl _) (e_if (et_test (e_eq (e_lenS (ev_var rfl) h1) ev_c)) (fun c2 => ?_) fun c2 => ?_)) fun c => s_when (et_test (e_eq (ev_var rfl) ev_c)) (fun c1 => s_ret (Same.refl _) (e_if (et_B (e_callV (ea_v1 rfl) fun H1 e => ⟨a, ps, rfl, hA.mono e, by omega, rfl⟩)) (fun c2 => ?_) fun c2 => ?_)) fun c1 => s_ret (Same.refl _) (e_if (et_B (e_callV (ea_v1 rfl) fun H1 e => ⟨a, ps, rfl, hA.mono e, hl, hb, rfl⟩)) (fun c2 => ?_) fun c2 => ?_)) k⟩
    · have c' : kd = 0 := by have := of_decide_eq_true c; omega
      have c2' : ps.length = 1 := by have := of_decide_eq_true c2; omega
      show EvP _ _ H (RKept (keptP kd ps))
      unfold keptP; rw [if_pos c', if_pos c2']
      exact (ev_var rfl).imp fun v H1 s e => by cases e; exact ⟨a, rfl, hA.mono s⟩
    · have c' : kd = 0 := by have := of_decide_eq_true c; omega
      have c2' : ¬ ps.length = 1 := by have := of_decide_eq_false c2; omega
      show EvP _ _ H (RKept (keptP kd ps))
      unfold keptP; rw [if_pos c', if_neg c2']
      exact ev_c
    · have c' : ¬ kd = 0 := by have := of_decide_eq_false c; omega
      have c1' : kd = 1 := by have := of_decide_eq_true c1; omega
      show EvP _ _ H (RKept (keptP kd ps))
      unfold keptP; rw [if_neg c', if_pos c1', if_pos c2]
      exact (ev_var rfl).imp fun v H1 s e => by cases e; exact ⟨a, rfl, hA.mono s⟩
    · have c' : ¬ kd = 0 := by have := of_decide_eq_false c; omega
      have c1' : kd = 1 := by have := of_decide_eq_true c1; omega
      show EvP _ _ H (RKept (keptP kd ps))
      unfold keptP; rw [if_neg c', if_pos c1', if_neg (by rw [c2]; decide)]
      exact ev_c
    · have c' : ¬ kd = 0 := by have := of_decide_eq_false c; omega
      have c1' : ¬ kd = 1 := by have := of_decide_eq_false c1; omega
      have hne : ps ≠ [] := by intro z; subst z; exact absurd c2 (by decide)
      show EvP _ _ H (RKept (keptP kd ps))
      unfold keptP; rw [if_neg c', if_neg c1', if_pos c2]
      exact e_callV (ea_v1 rfl) fun H1 e => ⟨a, ps, rfl, hA.mono e, by omega, hne, hb, rfl⟩
    · have c' : ¬ kd = 0 := by have := of_decide_eq_false c; omega
      have c1' : ¬ kd = 1 := by have := of_decide_eq_false c1; omega
      show EvP _ _ H (RKept (keptP kd ps))
      unfold keptP; rw [if_neg c', if_neg c1', if_neg (by rw [c2]; decide)]
      exact ev_c
end
end Wk
end
/-! ### WFe1 -/
section
set_option Elab.async false
set_option linter.all false
set_option maxRecDepth 100000
set_option maxHeartbeats 2000000
namespace Wk
open PySem PySem.Spec PyProof.Rows L2
open LsGeo (Pt)
section
variable {P : Program} {w : World} {K : PySem.W.Frag} {mg : Str → Option Value} {base : Heap} {A : Ad} {σ : L2.St} {H B : Hp} {ta tb te : TE} {u : TS} {R Ra : RR} {N : L2.St → Hp → Prop}
def isB (q : Int × Int × Int × Int) : RR := isT [.int q.1, .int q.2.1, .int q.2.2.1, .int q.2.2.2]
instance (q : Int × Int × Int × Int) : Mono (isB q) := (inferInstance : Mono (isT _))
def GAt (H : Hp) (a : Addr) (q : Int × Int × Int × Int) : Prop := H a = some (.tup [.int q.1, .int q.2.1, .int q.2.2.1, .int q.2.2.2])
theorem GAt.mono {H H' : Hp} {a : Addr} {q : Int × Int × Int × Int} (e : Same H H') (h : GAt H a q) : GAt H' a q := e _ _ h
def bx (q : Int × Int × Int × Int) : Prop := 0 ≤ q.1 ∧ q.1 ≤ 1000000 ∧ 0 ≤ q.2.1 ∧ q.2.1 ≤ 1000000 ∧ 0 ≤ q.2.2.1 ∧ q.2.2.1 ≤ 1000000 ∧ 0 ≤ q.2.2.2 ∧ q.2.2.2 ≤ 1000000
def boxP (ps : List Pt) : Int × Int × Int × Int := (LsBook.least (ps.map fun p => p.x), LsBook.least (ps.map fun p => p.y), LsBook.most (ps.map fun p => p.x), LsBook.most (ps.map fun p => p.y))
def sp_box_of (K : PySem.W.Frag) (A : Ad) : Sp := pure fun vs H R => ∃ a ps, vs = [.ref a] ∧ LstAt RPt H a ps ∧ ps.length ≤ 1000 ∧ ps ≠ [] ∧ R = isB (boxP ps)
theorem least_of {l : List Int} {m : Int} (hm : m ∈ l) (h : ∀ y ∈ l, m ≤ y) : m = LsBook.least l := by
  have hne : l ≠ [] := List.ne_nil_of_mem hm
  have a := Ge.least_lt hne (m - 1)
  have b := Ge.least_lt hne m
  have h1 := a.mpr fun y hy => by have := h y hy; omega
  have h2 : ¬ m < LsBook.least l := fun z => by have := b.mp z m hm; omega
  omega
theorem most_of {l : List Int} {m : Int} (hm : m ∈ l) (h : ∀ y ∈ l, y ≤ m) : m = LsBook.most l := by
  have hne : l ≠ [] := List.ne_nil_of_mem hm
  have a := Ge.most_lt hne (m + 1)
  have b := Ge.most_lt hne m
  have h1 := a.mpr fun y hy => by have := h y hy; omega
  have h2 : ¬ LsBook.most l < m := fun z => by have := b.mp z m hm; omega
  omega
theorem e_min {a : Addr} {l : List Int} (ha : EvP ta σ H (isV (.ref a))) (h : H a = some (.lst (l.map V.int))) (hne : l ≠ []) : EvP (tCB (rMin K) (tCons ta tNil)) σ H (isV (.int (LsBook.least l))) :=
  e_cb (ea_cons ha ea_nil) fun vs H1 e hv Q q => by
    cases hv
    exact ⟨a, l, rfl, SqL.of (e _ _ h), List.length_pos_iff.mpr hne, fun m hm hl => q _ H1 (Same.refl _) (congrArg V.int (least_of hm hl))⟩
theorem e_max {a : Addr} {l : List Int} (ha : EvP ta σ H (isV (.ref a))) (h : H a = some (.lst (l.map V.int))) (hne : l ≠ []) : EvP (tCB (rMax K) (tCons ta tNil)) σ H (isV (.int (LsBook.most l))) :=
  e_cb (ea_cons ha ea_nil) fun vs H1 e hv Q q => by
    cases hv
    exact ⟨a, l, rfl, SqL.of (e _ _ h), List.length_pos_iff.mpr hne, fun m hm hl => q _ H1 (Same.refl _) (congrArg V.int (most_of hm hl))⟩
def ofX (p : Pt) : RR := isV (.int p.x)
def ofY (p : Pt) : RR := isV (.int p.y)
instance (x : Pt) : Mono (ofX x) := ⟨fun _ h => h⟩
instance (x : Pt) : Stab (ofX x) := ⟨fun _ h => h⟩
instance (x : Pt) : Mono (ofY x) := ⟨fun _ h => h⟩
instance (x : Pt) : Stab (ofY x) := ⟨fun _ h => h⟩
theorem filter_true {α : Type} (l : List α) : l.filter (fun _ => true) = l := List.filter_eq_self.mpr fun _ _ => rfl
theorem ok_box_of (T : Txt K mg A)  {f : Addr} {fd : FuncData} (F : C8.Def K mg "box_of" s_box_of f fd) (bb : Binds K fd ["places"] []) : C8.Cal P w K mg base 1 "box_of" (sp_box_of K A) [] := by
  refine C8.cal0 F bb .nil sc_box_of (fun vs H Q E h => ?_) (fun cdv Ar outer s H vs Q E hr h => ?_)
  · obtain ⟨R, ⟨a, ps, rfl, _⟩, _⟩ := h
    rfl
  · obtain ⟨R, ⟨a, ps, rfl, hA, hl, hne, rfl⟩, k⟩ := h
    have nx : (ps.map fun p => p.x) ≠ [] := fun z => hne (List.map_eq_nil_iff.mp z)
    have ny : (ps.map fun p => p.y) ≠ [] := fun z => hne (List.map_eq_nil_iff.mp z)
    refine ⟨_, (pss_cons (ps_setLc (i := 1) (own := [("x", 3), ("y", 4)]) (tt := tYes) rfl sc_box_of.nd rfl rfl (sw_true rfl rfl rfl (by decide +kernel)) (pi_list (pv 0)) (blkOk_by (own := [("x", 3), ("y", 4)]) (N := N_box_of) (sc := C8.fnScope s_box_of) (by decide +kernel)) (fun _ _ _ _ _ => (pg_tupK (K := K) (n := 2) rfl rfl (pgs_cons (pg_name (i := 3) sc_box_of.nd rfl (Or.inl rfl)) (pgs_cons (pg_name (i := 4) sc_box_of.nd rfl (Or.inl rfl)) pgs_nil)))) (fun _ _ _ _ _ => pts_nil) (fun _ _ _ _ _ => (pv 3))) (pss_cons (ps_setLc (i := 2) (own := [("x", 3), ("y", 4)]) (tt := tYes) rfl sc_box_of.nd rfl rfl (sw_true rfl rfl rfl (by decide +kernel)) (pi_list (pv 0)) (blkOk_by (own := [("x", 3), ("y", 4)]) (N := N_box_of) (sc := C8.fnScope s_box_of) (by decide +kernel)) (fun _ _ _ _ _ => (pg_tupK (K := K) (n := 2) rfl rfl (pgs_cons (pg_name (i := 3) sc_box_of.nd rfl (Or.inl rfl)) (pgs_cons (pg_name (i := 4) sc_box_of.nd rfl (Or.inl rfl)) pgs_nil)))) (fun _ _ _ _ _ => pts_nil) (fun _ _ _ _ _ => (pv 4))) (pss_one (ps_ret (pe_tup (pa_cons (pe_callB (cr_min rfl) (by rfl) T.min (by decide +kernel) (pa_cons (pv 1) pa_nil)) (pa_cons (pe_callB (cr_min rfl) (by rfl) T.min (by decide +kernel) (pa_cons (pv 2) pa_nil)) (pa_cons (pe_callB (cr_max rfl) (by rfl) T.max (by decide +kernel) (pa_cons (pv 1) pa_nil)) (pa_cons (pe_callB (cr_max rfl) (by rfl) T.max (by decide +kernel) (pa_cons (pv 2) pa_nil)) pa_nil))))))))), body (s_set (e_lcF2 (F := RPt) (G := ofX) (L := ps) (fun _ => true) ((ev_var rfl).imp fun v H1 s e => ?_) (by omega) (fun _ _ => rfl) fun z v H2 hz hm s => ?_) fun v H1 s1 hv => ?_) k⟩
    · cases e; exact ⟨a, rfl, hA.mono s⟩
    · obtain ⟨t, rfl, ht⟩ := hz
      exact ⟨t, _, _, rfl, ht, fun H' s' => ⟨et_yes, fun _ => ev_var rfl⟩⟩
    · rw [filter_true] at hv
      obtain ⟨b, rfl, us, g1, g2⟩ := hv
      rw [vals_map (g := fun p : Pt => V.int p.x) g2] at g1
      have g1 : H1 b = some (.lst ((ps.map fun p => p.x).map V.int)) := by rw [List.map_map]; exact g1
      refine s_set (e_lcF2 (F := RPt) (G := ofY) (L := ps) (fun _ => true) ((ev_var rfl).imp fun v H1 s e => ?_) (by omega) (fun _ _ => rfl) fun z v H2 hz hm s => ?_) fun v H2 s2 hv => ?_
      · cases e; exact ⟨a, rfl, (hA.mono s1).mono s⟩
      · obtain ⟨t, rfl, ht⟩ := hz
        exact ⟨t, _, _, rfl, ht, fun H' s' => ⟨et_yes, fun _ => ev_var rfl⟩⟩
      · rw [filter_true] at hv
        obtain ⟨c, rfl, vs, f1, f2⟩ := hv
        rw [vals_map (g := fun p : Pt => V.int p.y) f2] at f1
        have f1 : H2 c = some (.lst ((ps.map fun p => p.y).map V.int)) := by rw [List.map_map]; exact f1
        have g1 := s2 _ _ g1
        exact s_ret (s1.trans s2) (e_tup (ea_cons (e_min (ev_var rfl) g1 nx) (ea_cons (e_min (ev_var rfl) f1 ny) (ea_cons (e_max (ev_var rfl) g1 nx) (ea_cons (e_max (ev_var rfl) f1 ny) ea_nil)))) (by show 4 ≤ 1000000; decide))
def apartQ (b g : Int × Int × Int × Int) : Bool := (decide (g.2.2.1 < b.1) || decide (b.2.2.1 < g.1)) || (decide (g.2.2.2 < b.2.1) || decide (b.2.2.2 < g.2.1))
def sp_boxes_apart (K : PySem.W.Frag) (A : Ad) : Sp := pure fun vs H R => ∃ a b q g, vs = [.ref a, .ref b] ∧ GAt H a q ∧ GAt H b g ∧ R = isV (.bl (apartQ q g))
theorem ok_boxes_apart (T : Txt K mg A)  {f : Addr} {fd : FuncData} (F : C8.Def K mg "boxes_apart" s_boxes_apart f fd) (bb : Binds K fd ["box", "ground"] []) : C8.Cal P w K mg base 1 "boxes_apart" (sp_boxes_apart K A) [] := by
  refine C8.cal0 F bb .nil sc_boxes_apart (fun vs H Q E h => ?_) (fun cdv Ar outer s H vs Q E hr h => ?_)
  · obtain ⟨R, ⟨a, b, q, g, rfl, _⟩, _⟩ := h
    rfl
  · obtain ⟨R, ⟨a, b, q, g, rfl, ha, hb, rfl⟩, k⟩ := h
    unfold GAt at ha hb
    refine ⟨_, (pss_cons (ps_if (PW.pt (pw_or (pt_cmpR op_gt (pe_ix ix_tup (pv 0) pe_int (fun _ _ => rfl)) (pe_ix ix_tup (pv 1) pe_int (fun _ _ => rfl)) (nomark _)) (pw_or1 (pt_cmpR op_lt (pe_ix ix_tup (pv 0) pe_int (fun _ _ => rfl)) (pe_ix ix_tup (pv 1) pe_int (fun _ _ => rfl)) (nomark _))))) (pss_one (ps_ret pe_bl)) pss_nil) (pss_one (ps_ret (pe_or (pe_cmpR op_gt (pe_ix ix_tup (pv 0) pe_int (fun _ _ => rfl)) (pe_ix ix_tup (pv 1) pe_int (fun _ _ => rfl)) (nomark _)) (pe_one (pe_cmpR op_lt (pe_ix ix_tup (pv 0) pe_int (fun _ _ => rfl)) (pe_ix ix_tup (pv 1) pe_int (fun _ _ => rfl)) (nomark _))))))), body (s_when (et_or (et_test (e_gt (e_ixT0 (ev_var rfl) ha) (e_ixT2 (ev_var rfl) hb))) fun _ => et_test (e_lt (e_ixT2 (ev_var rfl) ha) (e_ixT0 (ev_var rfl) hb))) (fun c => s_ret (Same.refl _) (ev_c.is ?_)) fun c => s_ret (Same.refl _) ((e_orV (e_gt (e_ixT1 (ev_var rfl) ha) (e_ixT3 (ev_var rfl) hb)) fun _ => e_lt (e_ixT3 (ev_var rfl) ha) (e_ixT1 (ev_var rfl) hb)).is ?_)) k⟩
    · refine congrArg V.bl ?_
      unfold apartQ; rw [c]; rfl
    · refine congrArg V.bl ?_
      unfold apartQ; rw [c]; rfl
def touchQ (z : Pt × Pt) (g : Int × Int × Int × Int) : Bool := decide (Ge.Wt z.1.x z.1.y z.2.x z.2.y g.1 g.2.1 g.2.2.1 g.2.2.2)
def sp_way_touches (K : PySem.W.Frag) (A : Ad) : Sp := pure fun vs H R => ∃ a b c p q g, vs = [.ref a, .ref b, .ref c] ∧ PtAt H a p ∧ PtAt H b q ∧ GAt H c g ∧ bp p ∧ bp q ∧ bx g ∧ R = isV (.bl (touchQ (p, q) g))
/-- a, b, c, d = e -/
theorem s_set4 {i j k l : Nat} (h : EvP te σ H Ra) (kk : ∀ v H1, Same H H1 → Ra v H1 → ∃ t x y z q, v = .ref t ∧ H1 t = some (.tup [x, y, z, q]) ∧ Run u ((((σ.set i (some x)).set j (some y)).set k (some z)).set l (some q)) B H1 R N) : Run (tSeq (tAsg te (gTup K 4 (gCons (gName i) (gCons (gName j) (gCons (gName k) (gCons (gName l) gNil)))))) u) σ B H R N := fun H1 e D q n =>
  h H1 e _ fun v H2 e2 hv => by
    obtain ⟨t, x, y, z, q1, rfl, ht, r⟩ := kk v H2 (e.trans e2) hv
    exact ⟨t, [x, y, z, q1], rfl, SqT.of ht, rfl, x, [y, z, q1], rfl, y, [z, q1], rfl, z, [q1], rfl, q1, [], rfl, rfl, r H2 (Same.refl _) D q n⟩
theorem e_lst4 {α : Type} {F : α → RR} [mf : ∀ x, Mono (F x)] {t1 t2 t3 t4 : TE} {x1 x2 x3 x4 : α} (h1 : EvP t1 σ H (F x1)) (h2 : EvP t2 σ H (F x2)) (h3 : EvP t3 σ H (F x3)) (h4 : EvP t4 σ H (F x4)) : EvP (tLst (tCons t1 (tCons t2 (tCons t3 (tCons t4 tNil))))) σ H (RLst F [x1, x2, x3, x4]) := fun H1 e Q q =>
  h1 H1 e _ fun v1 H2 e2 g1 => h2 H2 (e.trans e2) _ fun v2 H3 e3 g2 => h3 H3 ((e.trans e2).trans e3) _ fun v3 H4 e4 g3 => h4 H4 (((e.trans e2).trans e3).trans e4) _ fun v4 H5 e5 g4 =>
    ⟨by show 4 ≤ sizeLine; decide, fun p hp => q _ _ ((((e2.trans e3).trans e4).trans e5).trans (Same.new hp)) ⟨p, rfl, [v1, v2, v3, v4], upd_same,
      .cons ((mf _).mono (((e3.trans e4).trans e5).trans (Same.new hp)) g1) (.cons ((mf _).mono ((e4.trans e5).trans (Same.new hp)) g2) (.cons ((mf _).mono (e5.trans (Same.new hp)) g3) (.cons ((mf _).mono (Same.new hp) g4) .nil)))⟩⟩
def turnG (p q : Pt) (c : Pt) : RR := isV (.int (LsGeo.turn p q c))
instance (p q : Pt) (x : Pt) : Mono (turnG p q x) := ⟨fun _ h => h⟩
instance (p q : Pt) (x : Pt) : Stab (turnG p q x) := ⟨fun _ h => h⟩
theorem ok_way_touches (T : Txt K mg A) (c_turn : C8.Cal P w K mg base 1 "turn" (sp_turn K A) []) {f : Addr} {fd : FuncData} (F : C8.Def K mg "way_touches" s_way_touches f fd) (bb : Binds K fd ["p", "q", "ground"] []) : C8.Cal P w K mg base 2 "way_touches" (sp_way_touches K A) [] := by
  refine C8.cal0 F bb .nil sc_way_touches (fun vs H Q E h => ?_) (fun cdv Ar outer s H vs Q E hr h => ?_)
  · obtain ⟨R, ⟨a, b, c, p, q, g, rfl, _⟩, _⟩ := h
    rfl
  · obtain ⟨R, ⟨a, b, c, p, q, g, rfl, ha, hb, hc, bpp, bq, bg, rfl⟩, k⟩ := h
    have ha' : H a = some (.tup [.int p.x, .int p.y]) := ha
    have hb' : H b = some (.tup [.int q.x, .int q.y]) := hb
    refine ⟨_, (pss_cons (ps_asg (pv 2) (pg_tup rfl (pgs_cons (pg_name (i := 5) sc_way_touches.nd rfl (Or.inl rfl)) (pgs_cons (pg_name (i := 6) sc_way_touches.nd rfl (Or.inl rfl)) (pgs_cons (pg_name (i := 7) sc_way_touches.nd rfl (Or.inl rfl)) (pgs_cons (pg_name (i := 8) sc_way_touches.nd rfl (Or.inl rfl)) pgs_nil)))))) (pss_cons (ps_if (PW.pt (pw_or (pt_cmpR op_lt (pe_callB (call_max2 rfl) (by rfl) T.max (by decide +kernel) (pa_cons (pe_ix ix_tup (pv 0) pe_int (fun _ _ => rfl)) (pa_cons (pe_ix ix_tup (pv 1) pe_int (fun _ _ => rfl)) pa_nil))) (pv 5) (nomark _)) (pw_or1 (pt_cmpR op_gt (pe_callB (call_min2 rfl) (by rfl) T.min (by decide +kernel) (pa_cons (pe_ix ix_tup (pv 0) pe_int (fun _ _ => rfl)) (pa_cons (pe_ix ix_tup (pv 1) pe_int (fun _ _ => rfl)) pa_nil))) (pv 7) (nomark _))))) (pss_one (ps_ret pe_bl)) pss_nil) (pss_cons (ps_if (PW.pt (pw_or (pt_cmpR op_lt (pe_callB (call_max2 rfl) (by rfl) T.max (by decide +kernel) (pa_cons (pe_ix ix_tup (pv 0) pe_int (fun _ _ => rfl)) (pa_cons (pe_ix ix_tup (pv 1) pe_int (fun _ _ => rfl)) pa_nil))) (pv 6) (nomark _)) (pw_or1 (pt_cmpR op_gt (pe_callB (call_min2 rfl) (by rfl) T.min (by decide +kernel) (pa_cons (pe_ix ix_tup (pv 0) pe_int (fun _ _ => rfl)) (pa_cons (pe_ix ix_tup (pv 1) pe_int (fun _ _ => rfl)) pa_nil))) (pv 8) (nomark _))))) (pss_one (ps_ret pe_bl)) pss_nil) (pss_cons (ps_set (i := 3) sc_way_touches.nd rfl (Or.inl rfl) (pe_lst (pa_cons (pe_tup (pa_cons (pv 5) (pa_cons (pv 6) pa_nil))) (pa_cons (pe_tup (pa_cons (pv 7) (pa_cons (pv 6) pa_nil))) (pa_cons (pe_tup (pa_cons (pv 5) (pa_cons (pv 8) pa_nil))) (pa_cons (pe_tup (pa_cons (pv 7) (pa_cons (pv 8) pa_nil))) pa_nil)))))) (pss_cons (ps_setLc (i := 4) (own := [("corner", 9)]) (tt := tYes) rfl sc_way_touches.nd rfl rfl (sw_true rfl rfl rfl (by decide +kernel)) (pi_list (pv 3)) (blkOk_by (own := [("corner", 9)]) (N := N_way_touches) (sc := C8.fnScope s_way_touches) (by decide +kernel)) (fun _ _ _ _ _ => (pg_name (i := 9) sc_way_touches.nd rfl (Or.inl rfl))) (fun _ _ _ _ _ => pts_nil) (fun _ _ _ _ _ => (C8.pe_c c_turn hr (by decide) rfl (pa_cons (pv 0) (pa_cons (pv 1) (pa_cons (pv 9) pa_nil)))))) (pss_one (ps_ret (pe_chain op_le op_le (pe_callB (cr_min rfl) (by rfl) T.min (by decide +kernel) (pa_cons (pv 4) pa_nil)) pe_int (pe_callB (cr_max rfl) (by rfl) T.max (by decide +kernel) (pa_cons (pv 4) pa_nil)))))))))), body (s_set4 (ev_var rfl) fun v H1 s1 hv => ?_) k⟩
    cases hv
    refine ⟨c, _, _, _, _, rfl, s1 _ _ hc, ?_⟩
    have ha1 := s1 _ _ ha'
    have hb1 := s1 _ _ hb'
    refine s_when (et_or (et_test (e_lt (e_max2 (e_ixT0 (ev_var rfl) ha1) (e_ixT0 (ev_var rfl) hb1)) (ev_var rfl))) fun _ => et_test (e_gt (e_min2 (e_ixT0 (ev_var rfl) ha1) (e_ixT0 (ev_var rfl) hb1)) (ev_var rfl))) (fun c1 => s_ret s1 (ev_c.is ?_)) fun c1 => ?_
    · refine congrArg V.bl ?_
      rw [Bool.or_eq_true, decide_eq_true_eq, decide_eq_true_eq] at c1
      exact (decide_eq_false (p := Ge.Wt p.x p.y q.x q.y g.1 g.2.1 g.2.2.1 g.2.2.2) fun z => by obtain ⟨z1, z2, _⟩ := z; omega).symm
    refine s_when (et_or (et_test (e_lt (e_max2 (e_ixT1 (ev_var rfl) ha1) (e_ixT1 (ev_var rfl) hb1)) (ev_var rfl))) fun _ => et_test (e_gt (e_min2 (e_ixT1 (ev_var rfl) ha1) (e_ixT1 (ev_var rfl) hb1)) (ev_var rfl))) (fun c2 => s_ret s1 (ev_c.is ?_)) fun c2 => ?_
    · refine congrArg V.bl ?_
      rw [Bool.or_eq_true, decide_eq_true_eq, decide_eq_true_eq] at c2
      exact (decide_eq_false (p := Ge.Wt p.x p.y q.x q.y g.1 g.2.1 g.2.2.1 g.2.2.2) fun z => by obtain ⟨z1, z2, z3, z4, _⟩ := z; omega).symm
    have pt : ∀ {i j : Nat} {x y : Int} {σ : L2.St} {H : Hp}, σ[i]? = some (some (.int x)) → σ[j]? = some (some (.int y)) → EvP (tTup (tCons (tVar i) (tCons (tVar j) tNil))) σ H (RPt ⟨x, y⟩) := fun h1 h2 => (e_tup (ea_v2 h1 h2) (by show 2 ≤ 1000000; decide)).imp fun v H' _ r => r
    refine s_set (e_lst4 (F := RPt) (pt (x := g.1) (y := g.2.1) rfl rfl) (pt (x := g.2.2.1) (y := g.2.1) rfl rfl) (pt (x := g.1) (y := g.2.2.2) rfl rfl) (pt (x := g.2.2.1) (y := g.2.2.2) rfl rfl)) fun v H2 s2 hv => ?_
    obtain ⟨cs, rfl, hC⟩ := hv
    refine s_set (e_lcF (F := RPt) (G := turnG p q) (fun _ => true) (ev_var rfl) hC (by show 4 ≤ 1000000; decide) (fun _ => rfl) (fun _ _ _ _ _ _ => et_yes) fun x v H' hx hm s _ => ?_) fun v H3 s3 hv => ?_
    · obtain ⟨d, rfl, hd⟩ := hx
      refine e_callV (ea_v3 rfl rfl rfl) fun H4 e => ⟨a, b, d, p, q, x, rfl, ((ha.mono s1).mono s2).mono (s.trans e), ((hb.mono s1).mono s2).mono (s.trans e), hd.mono e, bpp, bq, ?_, rfl⟩
      unfold bx at bg
      simp only [List.mem_cons, List.not_mem_nil, or_false] at hm
      rcases hm with rfl | rfl | rfl | rfl <;> (unfold bp; simp only; omega)
    · rw [filter_true] at hv
      obtain ⟨ts, rfl, us, g1, g2⟩ := hv
      rw [vals_map (g := fun c : Pt => V.int (LsGeo.turn p q c)) g2] at g1
      have g1 : H3 ts = some (.lst (([⟨g.1, g.2.1⟩, ⟨g.2.2.1, g.2.1⟩, ⟨g.1, g.2.2.2⟩, ⟨g.2.2.1, g.2.2.2⟩] : List Pt).map (fun c => LsGeo.turn p q c) |>.map V.int)) := by rw [List.map_map]; exact g1
      have ne : (([⟨g.1, g.2.1⟩, ⟨g.2.2.1, g.2.1⟩, ⟨g.1, g.2.2.2⟩, ⟨g.2.2.1, g.2.2.2⟩] : List Pt).map (fun c => LsGeo.turn p q c)) ≠ [] := by simp
      refine s_ret ((s1.trans s2).trans s3) ((e_chainLe (e_min (ev_var rfl) g1 ne) ev_c (e_max (ev_var rfl) g1 ne)).is ?_)
      refine congrArg V.bl ?_
      rw [Bool.or_eq_false_iff, decide_eq_false_iff_not, decide_eq_false_iff_not] at c1 c2
      have k1 : (g.1 ≤ p.x ∨ g.1 ≤ q.x) ∧ (p.x ≤ g.2.2.1 ∨ q.x ≤ g.2.2.1) ∧ (g.2.1 ≤ p.y ∨ g.2.1 ≤ q.y) ∧ (p.y ≤ g.2.2.2 ∨ q.y ≤ g.2.2.2) := by
        clear bpp bq bg
        refine ⟨?_, ?_, ?_, ?_⟩ <;> omega
      have l1 := Ge.least_lt ne 0
      have l2 := Ge.most_lt ne 0
      simp only [List.map_cons, List.map_nil, List.forall_mem_cons, List.not_mem_nil, false_implies, implies_true, and_true, Ge.turn_tf] at l1 l2
      have A : LsBook.least [Ge.tf p.x p.y q.x q.y g.1 g.2.1, Ge.tf p.x p.y q.x q.y g.2.2.1 g.2.1, Ge.tf p.x p.y q.x q.y g.1 g.2.2.2, Ge.tf p.x p.y q.x q.y g.2.2.1 g.2.2.2] ≤ 0 ↔ (Ge.tf p.x p.y q.x q.y g.1 g.2.1 ≤ 0 ∨ Ge.tf p.x p.y q.x q.y g.2.2.1 g.2.1 ≤ 0 ∨ Ge.tf p.x p.y q.x q.y g.1 g.2.2.2 ≤ 0 ∨ Ge.tf p.x p.y q.x q.y g.2.2.1 g.2.2.2 ≤ 0) := by
        rw [← Int.not_lt, l1]; clear l1 l2 c1 c2 k1 bpp bq bg; omega
      have B' : 0 ≤ LsBook.most [Ge.tf p.x p.y q.x q.y g.1 g.2.1, Ge.tf p.x p.y q.x q.y g.2.2.1 g.2.1, Ge.tf p.x p.y q.x q.y g.1 g.2.2.2, Ge.tf p.x p.y q.x q.y g.2.2.1 g.2.2.2] ↔ (0 ≤ Ge.tf p.x p.y q.x q.y g.1 g.2.1 ∨ 0 ≤ Ge.tf p.x p.y q.x q.y g.2.2.1 g.2.1 ∨ 0 ≤ Ge.tf p.x p.y q.x q.y g.1 g.2.2.2 ∨ 0 ≤ Ge.tf p.x p.y q.x q.y g.2.2.1 g.2.2.2) := by
        rw [← Int.not_lt, l2]; clear l1 l2 A c1 c2 k1 bpp bq bg; omega
      unfold touchQ
      rw [Bool.eq_iff_iff, Bool.and_eq_true, decide_eq_true_eq, decide_eq_true_eq, decide_eq_true_eq]
      simp only [List.map_cons, List.map_nil, Ge.turn_tf]
      constructor
      · rintro ⟨x, y⟩
        exact ⟨k1.1, k1.2.1, k1.2.2.1, k1.2.2.2, A.mp x, B'.mp y⟩
      · rintro ⟨_, _, _, _, x, y⟩
        exact ⟨A.mpr x, B'.mpr y⟩
def sp_any_touches (K : PySem.W.Frag) (A : Ad) : Sp := pure fun vs H R => ∃ a b L g, vs = [.ref a, .ref b] ∧ LstAt RWay H a L ∧ GAt H b g ∧ (∀ w ∈ L, bp w.1 ∧ bp w.2) ∧ bx g ∧ R = isV (.bl (Ge.anyTouches L g.1 g.2.1 g.2.2.1 g.2.2.2))
theorem ok_any_touches (T : Txt K mg A) (c_way_touches : C8.Cal P w K mg base 2 "way_touches" (sp_way_touches K A) []) {f : Addr} {fd : FuncData} (F : C8.Def K mg "any_touches" s_any_touches f fd) (bb : Binds K fd ["ways", "ground"] []) : C8.Cal P w K mg base 3 "any_touches" (sp_any_touches K A) [] := by
  refine C8.cal0 F bb .nil sc_any_touches (fun vs H Q E h => ?_) (fun cdv Ar outer s H vs Q E hr h => ?_)
  · obtain ⟨R, ⟨a, b, L, g, rfl, _⟩, _⟩ := h
    rfl
  · obtain ⟨R, ⟨a, b, L, g, rfl, hA, hB, hb, bg, rfl⟩, k⟩ := h
    refine ⟨_, (pss_cons (ps_for PassesOwn.never rfl (pi_list (pv 0)) (pg_tup rfl (pgs_cons (pg_name (i := 2) sc_any_touches.nd rfl (Or.inl rfl)) (pgs_cons (pg_name (i := 3) sc_any_touches.nd rfl (Or.inl rfl)) pgs_nil))) (pss_one (ps_if (pt_val (C8.pe_c c_way_touches hr (by decide) rfl (pa_cons (pv 2) (pa_cons (pv 3) (pa_cons (pv 1) pa_nil))))) (pss_one (ps_ret pe_bl)) pss_nil))) (pss_one (ps_ret pe_bl))), body (s_seq (M := fun σ' _ => ∀ i z, L[i]? = some z → touchQ z g = false) (s_forQ2 (F := RWay) (L := L) (Same.refl _) ((ev_var rfl).imp fun v H1 s e => by cases e; exact ⟨a, rfl, hA.mono s⟩)
      (fun i σ' => (∃ v1 v2, σ' = [some (.ref a), some (.ref b), v1, v2]) ∧ ∀ j z, j < i → L[j]? = some z → touchQ z g = false) ⟨⟨_, _, rfl⟩, fun j z h => by omega⟩ (fun i z v σ' H' hz s hv p => ?_) fun σ' H' s p i z hz => p.2 i z (List.getElem?_eq_some_iff.mp hz).1 hz) fun σ' H2 s2 hM => s_ret s2 (ev_c.is ?_)) k⟩
    · obtain ⟨⟨v1, v2, rfl⟩, hp⟩ := p
      obtain ⟨t, rfl, pa, pb, ht, hpa, hpb⟩ := hv
      have bz := hb z (List.mem_of_getElem? hz)
      refine ⟨t, _, _, rfl, ht, s_if (b := touchQ z g) (et_B (e_callV (ea_v3 rfl rfl rfl) fun H3 e => ⟨pa, pb, b, z.1, z.2, g, rfl, hpa.mono e, hpb.mono e, hB.mono (s.trans e), bz.1, bz.2, bg, rfl⟩)) (fun c => s_ret (Same.refl _) (ev_c.is ?_)) fun c => s_nx fun H4 e => ⟨e, ⟨_, _, rfl⟩, fun j y hj hy => ?_⟩⟩
      · refine congrArg V.bl ?_
        exact (List.any_eq_true.mpr ⟨z, List.mem_of_getElem? hz, c⟩).symm
      · by_cases q : j = i
        · subst q
          rw [hz] at hy; cases hy
          exact c
        · exact hp j y (by omega) hy
    · refine congrArg V.bl ?_
      symm
      unfold Ge.anyTouches
      rw [List.any_eq_false]
      intro z hz
      obtain ⟨i, hi⟩ := List.mem_iff_getElem?.mp hz
      have := hM i z hi
      unfold touchQ at this
      rw [this]; decide
theorem odd_snoc (f : Pt × Pt → Bool) : ∀ (l : List (Pt × Pt)) (z : Pt × Pt), Ge.odd f (l ++ [z]) = xor (Ge.odd f l) (f z)
  | [], z => by show xor (f z) false = xor false (f z); cases f z <;> rfl
  | a :: l, z => by
    show xor (f a) (Ge.odd f (l ++ [z])) = xor (xor (f a) (Ge.odd f l)) (f z)
    rw [odd_snoc f l z, Bool.xor_assoc]
theorem odd_take {f : Pt × Pt → Bool} {l : List (Pt × Pt)} {i : Nat} {z : Pt × Pt} (h : l[i]? = some z) : Ge.odd f (l.take (i + 1)) = xor (Ge.odd f (l.take i)) (f z) := by
  obtain ⟨hi, e⟩ := List.getElem?_eq_some_iff.mp h
  rw [← List.take_append_getElem hi, odd_snoc, e]
def sp_lies_within (K : PySem.W.Frag) (A : Ad) : Sp := pure fun vs H R => ∃ a b L p, vs = [.ref a, .ref b] ∧ PtAt H a p ∧ LstAt RWay H b L ∧ (∀ w ∈ L, bp w.1 ∧ bp w.2) ∧ bp p ∧ R = isV (.bl (Ge.odd (Ge.east p) L))
theorem dec_vbl (a b : Bool) : decide (V.bl a = V.bl b) = (a == b) := by cases a <;> cases b <;> decide
theorem ok_lies_within (T : Txt K mg A) (c_turn : C8.Cal P w K mg base 1 "turn" (sp_turn K A) []) {f : Addr} {fd : FuncData} (F : C8.Def K mg "lies_within" s_lies_within f fd) (bb : Binds K fd ["place", "sides"] []) : C8.Cal P w K mg base 2 "lies_within" (sp_lies_within K A) [] := by
  refine C8.cal0 F bb .nil sc_lies_within (fun vs H Q E h => ?_) (fun cdv Ar outer s H vs Q E hr h => ?_)
  · obtain ⟨R, ⟨a, b, L, p, rfl, _⟩, _⟩ := h
    rfl
  · obtain ⟨R, ⟨a, b, L, p, rfl, hA, hB, hb, bpp, rfl⟩, k⟩ := h
    have hA' : H a = some (.tup [.int p.x, .int p.y]) := hA
    refine ⟨_, (pss_cons (ps_set (i := 2) sc_lies_within.nd rfl (Or.inl rfl) pe_bl) (pss_cons (ps_for PassesOwn.never rfl (pi_list (pv 1)) (pg_tup rfl (pgs_cons (pg_name (i := 3) sc_lies_within.nd rfl (Or.inl rfl)) (pgs_cons (pg_name (i := 4) sc_lies_within.nd rfl (Or.inl rfl)) pgs_nil))) (pss_one (ps_if (pt_cmpR op_ne (pe_cmpR op_gt (pe_ix ix_tup (pv 3) pe_int (fun _ _ => rfl)) (pe_ix ix_tup (pv 0) pe_int (fun _ _ => rfl)) (nomark _)) (pe_cmpR op_gt (pe_ix ix_tup (pv 4) pe_int (fun _ _ => rfl)) (pe_ix ix_tup (pv 0) pe_int (fun _ _ => rfl)) (nomark _)) (nomark _)) (pss_cons (ps_set (i := 5) sc_lies_within.nd rfl (Or.inl rfl) (C8.pe_c c_turn hr (by decide) rfl (pa_cons (pv 3) (pa_cons (pv 4) (pa_cons (pv 0) pa_nil))))) (pss_one (ps_if (PW.pt (pw_or (PW.pt (pw_and (pt_cmpR op_gt (pv 5) pe_int (nomark _)) (pw_and1 (pt_cmpR op_gt (pe_ix ix_tup (pv 4) pe_int (fun _ _ => rfl)) (pe_ix ix_tup (pv 3) pe_int (fun _ _ => rfl)) (nomark _))))) (pw_or1 (PW.pt (pw_and (pt_cmpR op_lt (pv 5) pe_int (nomark _)) (pw_and1 (pt_cmpR op_lt (pe_ix ix_tup (pv 4) pe_int (fun _ _ => rfl)) (pe_ix ix_tup (pv 3) pe_int (fun _ _ => rfl)) (nomark _)))))))) (pss_one (ps_set (i := 2) sc_lies_within.nd rfl (Or.inl rfl) (pe_not (pv 2)))) pss_nil))) pss_nil))) (pss_one (ps_ret (pv 2))))), body (s_set ev_c fun v H1 s1 hv => ?_) k⟩
    cases hv
    refine s_seq (M := fun σ' _ => ∃ v1 v2 v3, σ' = [some (.ref a), some (.ref b), some (.bl (Ge.odd (Ge.east p) L)), v1, v2, v3]) (s_forQ2 (F := RWay) (L := L) s1 ((ev_var rfl).imp fun v H2 s e => by cases e; exact ⟨b, rfl, (hB.mono s1).mono s⟩)
      (fun i σ' => ∃ v1 v2 v3, σ' = [some (.ref a), some (.ref b), some (.bl (Ge.odd (Ge.east p) (L.take i))), v1, v2, v3]) ⟨_, _, _, rfl⟩ (fun i z v σ' H' hz s hv q => ?_) fun σ' H' s q => by rw [List.take_length] at q; exact q) fun σ' H2 s2 hM => ?_
    · obtain ⟨v1, v2, v3, rfl⟩ := q
      obtain ⟨t, rfl, pa, pb, ht, hpa, hpb⟩ := hv
      have bz := hb z (List.mem_of_getElem? hz)
      have hpa' : H' pa = some (.tup [.int z.1.x, .int z.1.y]) := hpa
      have hpb' : H' pb = some (.tup [.int z.2.x, .int z.2.y]) := hpb
      have ha2 := s _ _ (s1 _ _ hA')
      rw [odd_take hz]
      refine ⟨t, _, _, rfl, ht, s_if (b := !(decide (p.y < z.1.y) == decide (p.y < z.2.y))) (et_test ((ev_op (e_gt (e_ixT1 (ev_var rfl) hpa') (e_ixT1 (ev_var rfl) ha2)) (e_gt (e_ixT1 (ev_var rfl) hpb') (e_ixT1 (ev_var rfl) ha2)) (rv_ne rfl)).is (by rw [dec_vbl]))) (fun c => ?_) fun c => s_nx fun H4 e => ⟨e, ?_⟩⟩
      · refine s_set (e_callV (ea_v3 rfl rfl rfl) fun H3 e => ⟨pa, pb, a, z.1, z.2, p, rfl, hpa.mono e, hpb.mono e, (hA.mono s1).mono (s.trans e), bz.1, bz.2, bpp, rfl⟩) fun v H3 s3 hv => ?_
        cases hv
        have hpa3 := s3 _ _ hpa'
        have hpb3 := s3 _ _ hpb'
        have ea : Ge.east p z = ((decide (0 < LsGeo.turn z.1 z.2 p) && decide (z.1.y < z.2.y)) || (decide (LsGeo.turn z.1 z.2 p < 0) && decide (z.2.y < z.1.y))) := by
          unfold Ge.east
          rw [Bool.eq_iff_iff]
          simp only [Bool.or_eq_true, Bool.and_eq_true, decide_eq_true_eq]
          rw [Bool.not_eq_true', Bool.eq_false_iff] at c
          simp only [ne_eq, beq_iff_eq, decide_eq_decide] at c
          omega
        rw [ea]
        refine s_if (et_or (et_and (et_test (e_gt (ev_var rfl) ev_c)) fun _ => et_test (e_gt (e_ixT1 (ev_var rfl) hpb3) (e_ixT1 (ev_var rfl) hpa3))) fun _ => et_and (et_test (e_lt (ev_var rfl) ev_c)) fun _ => et_test (e_lt (e_ixT1 (ev_var rfl) hpb3) (e_ixT1 (ev_var rfl) hpa3))) (fun c2 => s_setN s3 (e_notV (ev_var rfl)) fun v H4 s4 hv => ?_) fun c2 => s_nx fun H4 e => ⟨s3.trans e, ?_⟩
        · cases hv
          rw [c2, Bool.xor_true]
          exact ⟨_, _, _, rfl⟩
        · rw [c2, Bool.xor_false]; exact ⟨_, _, _, rfl⟩
      · have ea : Ge.east p z = false := by
          unfold Ge.east
          rw [Bool.eq_false_iff]
          intro y
          simp only [Bool.or_eq_true, Bool.and_eq_true, decide_eq_true_eq] at y
          rw [Bool.not_eq_false', beq_iff_eq, decide_eq_decide] at c
          omega
        rw [ea, Bool.xor_false]; exact ⟨_, _, _, rfl⟩
    · obtain ⟨v1, v2, v3, rfl⟩ := hM
      exact s_ret s2 (ev_var rfl)
end
end Wk
end
/-! ### WStm -/
section
set_option Elab.async false
set_option linter.all false
set_option maxRecDepth 100000
set_option maxHeartbeats 2000000
namespace Wk
open PySem PySem.Spec PyProof.Rows L2
open LsGeo (Pt)
section
variable {K : PySem.W.Frag} {σ : L2.St} {B B' H : Hp} {ta tb te to : TE} {t u z : TS} {R Ra : RR} {N M : L2.St → Hp → Prop} {α : Type} {F : α → RR}
theorem Run.base (s : Same B B') (h : Run t σ B' H R N) : Run t σ B H R N := fun H1 e D q n => h H1 e D (fun v H2 e2 hv => q v H2 (s.trans e2) hv) fun σ' H2 e2 hn => n σ' H2 (s.trans e2) hn
theorem e_imp0 (h : EvP te σ H Ra) (k : ∀ v H1, Ra v H1 → R v H1) : EvP te σ H R := h.imp fun v H1 _ r => k v H1 r
/-- x.append(e), something behind -/
theorem s_app {l : Addr} {xs : List V} (s : Same B H) (hB : B l = none) (hl : H l = some (.lst xs)) (ho : EvP to σ H (isV (.ref l))) (h : EvP te σ H Ra) (hz : xs.length < 16000000) (k : ∀ v H1, Same H H1 → Ra v H1 → Run u σ B (upd H1 l (.lst (xs ++ [v]))) R N) :
    Run (tSeq (tDrop (tBM K "list" rAppend to (tCons te tNil))) u) σ B H R N := fun H1 e D q n =>
  ho H1 e _ fun v1 H2 e2 h1 => by
    cases h1
    refine ⟨.inl ⟨rfl, xs, SqL.of ((e.trans e2) _ _ hl)⟩, h H2 (e.trans e2) _ fun v H3 e3 hv => ?_⟩
    have g := ((e.trans e2).trans e3) _ _ hl
    exact ⟨l, xs, v, rfl, rfl, g, sz_lt hz, k v H3 ((e.trans e2).trans e3) hv _ (Same.refl _) D q n⟩
theorem s_appN {l : Addr} {xs : List V} (s : Same B H) (hB : B l = none) (hl : H l = some (.lst xs)) (ho : EvP to σ H (isV (.ref l))) (h : EvP te σ H Ra) (hz : xs.length < 16000000) (k : ∀ v H1, Same H H1 → Ra v H1 → Same B (upd H1 l (.lst (xs ++ [v]))) → N σ (upd H1 l (.lst (xs ++ [v])))) :
    Run (tDrop (tBM K "list" rAppend to (tCons te tNil))) σ B H R N := fun H1 e D q n =>
  ho H1 e _ fun v1 H2 e2 h1 => by
    cases h1
    refine ⟨.inl ⟨rfl, xs, SqL.of ((e.trans e2) _ _ hl)⟩, h H2 (e.trans e2) _ fun v H3 e3 hv => ?_⟩
    have g := ((e.trans e2).trans e3) _ _ hl
    have sb := ((s.trans ((e.trans e2).trans e3))).mut (o := .lst (xs ++ [v])) hB
    exact ⟨l, xs, v, rfl, rfl, g, sz_lt hz, n _ _ sb (k v H3 ((e.trans e2).trans e3) hv sb)⟩
/-- x.extend(e) -/
theorem s_ext [mf : ∀ x, Mono (F x)] {l : Addr} {xs : List V} {ys : List α} (s : Same B H) (hB : B l = none) (hl : H l = some (.lst xs)) (ho : EvP to σ H (isV (.ref l))) (h : EvP te σ H (RLst F ys)) (hz : xs.length + ys.length ≤ 16777216) (k : ∀ vs H1, Same H H1 → Paired (fun v x => F x v H1) vs ys → Run u σ B (upd H1 l (.lst (xs ++ vs))) R N) :
    Run (tSeq (tDrop (tBM K "list" rExtend to (tCons te tNil))) u) σ B H R N := fun H1 e D q n =>
  ho H1 e _ fun v1 H2 e2 h1 => by
    cases h1
    refine ⟨.inl ⟨rfl, xs, SqL.of ((e.trans e2) _ _ hl)⟩, h H2 (e.trans e2) _ fun v H3 e3 hv => ?_⟩
    obtain ⟨b, rfl, vs, g1, g2⟩ := hv
    have g := ((e.trans e2).trans e3) _ _ hl
    exact ⟨l, b, xs, vs, rfl, rfl, g, g1, by rw [g2.len]; exact hz, k vs H3 ((e.trans e2).trans e3) g2 _ (Same.refl _) D q n⟩
theorem s_extN [mf : ∀ x, Mono (F x)] {l : Addr} {xs : List V} {ys : List α} (s : Same B H) (hB : B l = none) (hl : H l = some (.lst xs)) (ho : EvP to σ H (isV (.ref l))) (h : EvP te σ H (RLst F ys)) (hz : xs.length + ys.length ≤ 16777216) (k : ∀ vs H1, Same H H1 → Paired (fun v x => F x v H1) vs ys → Same B (upd H1 l (.lst (xs ++ vs))) → N σ (upd H1 l (.lst (xs ++ vs)))) :
    Run (tDrop (tBM K "list" rExtend to (tCons te tNil))) σ B H R N := fun H1 e D q n =>
  ho H1 e _ fun v1 H2 e2 h1 => by
    cases h1
    refine ⟨.inl ⟨rfl, xs, SqL.of ((e.trans e2) _ _ hl)⟩, h H2 (e.trans e2) _ fun v H3 e3 hv => ?_⟩
    obtain ⟨b, rfl, vs, g1, g2⟩ := hv
    have g := ((e.trans e2).trans e3) _ _ hl
    have sb := ((s.trans ((e.trans e2).trans e3))).mut (o := .lst (xs ++ vs)) hB
    exact ⟨l, b, xs, vs, rfl, rfl, g, g1, by rw [g2.len]; exact hz, n _ _ sb (k vs H3 ((e.trans e2).trans e3) g2 sb)⟩
/-- x += e (whole numbers) -/
theorem s_aug {i : Nat} {f : Int → Int → Int} {a b : Int} (hx : σ[i]? = some (some (.int a))) (h : EvP te σ H (isV (.int b))) (k : ∀ H1, Same H H1 → Run u (σ.set i (some (.int (f a b)))) B H1 R N) : Run (tSeq (tAug i te (ipI f)) u) σ B H R N := fun H1 e D q n =>
  ⟨.int a, hx, h H1 e _ fun v H2 e2 hv => ⟨a, b, rfl, hv, k H2 (e.trans e2) H2 (Same.refl _) D q n⟩⟩
theorem s_augN {i : Nat} {f : Int → Int → Int} {a b : Int} (s : Same B H) (hx : σ[i]? = some (some (.int a))) (h : EvP te σ H (isV (.int b))) (k : ∀ H1, Same H H1 → N (σ.set i (some (.int (f a b)))) H1) : Run (tAug i te (ipI f)) σ B H R N := fun H1 e D q n =>
  ⟨.int a, hx, h H1 e _ fun v H2 e2 hv => ⟨a, b, rfl, hv, n _ _ ((s.trans e).trans e2) (k H2 (e.trans e2))⟩⟩
/-- for over range(n), whatever the turns change behind B -/
theorem s_forR {m : Int} {n0 : Nat} {j : Nat} {ta : TA} {tb : TS} (s : Same B H) (h : EvA ta σ H (isA [.int m])) (hm : m.toNat = n0) (hb : -(2 ^ 62) ≤ m ∧ m < 2 ^ 62) (Pv : Nat → L2.St → Hp → Prop) (h0 : ∀ H1, Same H H1 → Pv 0 σ H1)
    (hs : ∀ i σ' H', i < n0 → Same B H' → Pv i σ' H' → Run tb (σ'.set j (some (.int (i : Nat)))) B H' R (Pv (i + 1)))
    (hd : ∀ σ' H', Same B H' → Pv n0 σ' H' → N σ' H') : Run (tFor (iRng1 ta) (gName j) tb) σ B H R N := fun H1 e D q n =>
  h H1 e _ fun v H2 e2 hv => by
    subst hm
    refine ⟨m, hv, hb.1, hb.2, for_range (lo := 0) (n := m.toNat) (fun i σ' H' => Same B H' ∧ Pv i σ' H') ⟨(s.trans e).trans e2, h0 H2 (e.trans e2)⟩ (fun i σ' H' hi p => ?_) fun σ' H' p => n σ' H' p.1 (hd σ' H' p.1 p.2)⟩
    have z : (0 : Int) + (i : Int) = i := by omega
    show tb _ (σ'.set j (some (.int (0 + (i : Int))))) H'
    rw [z]
    exact hs i σ' H' hi p.1 p.2 H' (Same.refl _) _ q fun σ2 H3 e3 hn => ⟨e3, hn⟩
/-- for over a list that stands since B -/
theorem s_forB [mf : ∀ x, Mono (F x)] {a : Addr} {L : List α} {tl : TE} {j : Nat} {tb : TS} (s : Same B H) (h : EvP tl σ H (isV (.ref a))) (hx : LstAt F B a L) (Pv : Nat → L2.St → Hp → Prop) (h0 : ∀ H1, Same H H1 → Pv 0 σ H1)
    (hs : ∀ i x v σ' H', L[i]? = some x → F x v B → Same B H' → Pv i σ' H' → Run tb (σ'.set j (some v)) B H' R (Pv (i + 1)))
    (hd : ∀ σ' H', Same B H' → Pv L.length σ' H' → N σ' H') : Run (tFor (iList K tl) (gName j) tb) σ B H R N := fun H1 e D q n =>
  h H1 e _ fun v H2 e2 hv => by
    cases hv
    obtain ⟨vs, h1, h2⟩ := hx
    refine ⟨a, rfl, ⟨vs, SqL.of (((s.trans e).trans e2) _ _ h1)⟩, for_list (K := K) (a := a) (xs := vs) (fun i σ' H' => Same B H' ∧ Pv i σ' H') ⟨(s.trans e).trans e2, h0 H2 (e.trans e2)⟩
      (fun i σ' H' hi p => SqL.of (p.1 _ _ h1)) (fun i x σ' H' hi p => ?_) fun σ' H' p => n σ' H' p.1 (hd σ' H' p.1 (by rw [← h2.len]; exact p.2))⟩
    obtain ⟨y, hy, f⟩ := h2.get hi
    exact hs i y x σ' H' hy f p.1 p.2 H' (Same.refl _) _ q fun σ2 H3 e3 hn => ⟨e3, hn⟩
/-- the same, pairs told to two names -/
theorem s_forB2 [mf : ∀ x, Mono (F x)] {a : Addr} {L : List α} {tl : TE} {j1 j2 : Nat} {tb : TS} (s : Same B H) (h : EvP tl σ H (isV (.ref a))) (hx : LstAt F B a L) (Pv : Nat → L2.St → Hp → Prop) (h0 : ∀ H1, Same H H1 → Pv 0 σ H1)
    (hs : ∀ i z v σ' H', L[i]? = some z → F z v B → Same B H' → Pv i σ' H' → ∃ t x y, v = .ref t ∧ H' t = some (.tup [x, y]) ∧ Run tb ((σ'.set j1 (some x)).set j2 (some y)) B H' R (Pv (i + 1)))
    (hd : ∀ σ' H', Same B H' → Pv L.length σ' H' → N σ' H') : Run (tFor (iList K tl) (gTup K 2 (gCons (gName j1) (gCons (gName j2) gNil))) tb) σ B H R N := fun H1 e D q n =>
  h H1 e _ fun v H2 e2 hv => by
    cases hv
    obtain ⟨vs, h1, h2⟩ := hx
    refine ⟨a, rfl, ⟨vs, SqL.of (((s.trans e).trans e2) _ _ h1)⟩, for_list (K := K) (a := a) (xs := vs) (fun i σ' H' => Same B H' ∧ Pv i σ' H') ⟨(s.trans e).trans e2, h0 H2 (e.trans e2)⟩
      (fun i σ' H' hi p => SqL.of (p.1 _ _ h1)) (fun i x σ' H' hi p => ?_) fun σ' H' p => n σ' H' p.1 (hd σ' H' p.1 (by rw [← h2.len]; exact p.2))⟩
    obtain ⟨y, hy, f⟩ := h2.get hi
    obtain ⟨t, x1, y1, rfl, ht, r⟩ := hs i y x σ' H' hy f p.1 p.2
    exact ⟨t, [x1, y1], rfl, SqT.of ht, rfl, x1, [y1], rfl, y1, [], rfl, rfl, r H' (Same.refl _) _ q fun σ2 H3 e3 hn => ⟨e3, hn⟩⟩
/-- a new list [] in a slot: its place is new -/
theorem s_newL {i : Nat} (s : Same B H) (k : ∀ p H1, H p = none → Same H H1 → Same B H1 → B p = none → H1 p = some (.lst []) → Run u (σ.set i (some (.ref p))) B H1 R N) : Run (tSeq (tAsg (tLst tNil) (gName i)) u) σ B H R N := fun H1 e D q n =>
  ⟨Nat.zero_le _, fun p hp => k p _ (e.free hp) (e.trans (Same.new hp)) ((s.trans e).trans (Same.new hp)) ((s.trans e).free hp) upd_same _ (Same.refl _) D q n⟩
/-- a slot's value ahead of arguments told by what is true of them -/
def isK (x : V) (S : List V → Hp → Prop) : List V → Hp → Prop := fun vs H => ∃ r, vs = x :: r ∧ S r H
theorem ea_cons_var {i : Nat} {x : V} {tr : TA} {S : List V → Hp → Prop} (h : σ[i]? = some (some x)) (hr : EvA tr σ H S) : EvA (tCons (tVar i) tr) σ H (isK x S) := fun H1 e _ q =>
  ⟨x, h, hr H1 e _ fun v2 H3 e3 h2 => q _ H3 e3 ⟨v2, rfl, h2⟩⟩
/-- x in a written tuple -/
theorem e_inW {a : Addr} {xs : List V} {x : V} {b : Bool} (ha : EvP ta σ H (isV x)) (hb : EvP tb σ H (isV (.ref a))) (h : SqT K H a xs) (hx : flatV x = true) (hf : xs.all flatV = true) (e : inV x xs = b) : EvP (tOp (rIn K false) ta tb) σ H (isV (.bl b)) :=
  (ev_op ha hb (rv_inT (neg := false) h hx hf)).is (by rw [← e]; rfl)
theorem e_notinW {a : Addr} {xs : List V} {x : V} {b : Bool} (ha : EvP ta σ H (isV x)) (hb : EvP tb σ H (isV (.ref a))) (h : SqT K H a xs) (hx : flatV x = true) (hf : xs.all flatV = true) (e : (!inV x xs) = b) : EvP (tOp (rIn K true) ta tb) σ H (isV (.bl b)) :=
  (ev_op ha hb (rv_inT (neg := true) h hx hf)).is (by rw [← e]; rfl)
/-- [e for x in (a, b, ..)] -/
theorem e_lcTN {tt : TT} {xs : List V} {tl : TE} {j : Nat} {vs : List Nat} (keep : Nat → Bool) (O : Nat → RR) [mo : ∀ i, Mono (O i)] [st : ∀ i, Stab (O i)] (h : EvP tl σ H (isT xs)) (hn : xs.length ≤ 1000000)
    (hw : ∀ x, wipe ((wipe σ vs).set j (some x)) vs = wipe σ vs)
    (ht : ∀ i x H', xs[i]? = some x → Same H H' → EvT tt ((wipe σ vs).set j (some x)) H' (keep i)) (he : ∀ i x H', xs[i]? = some x → Same H H' → keep i = true → EvP te ((wipe σ vs).set j (some x)) H' (O i)) :
    EvP (tLc (iTup K tl) (gName j) tt te vs) σ H (RLst O ((List.range xs.length).filter keep)) := fun H1 e Q q =>
  h H1 e _ fun v H2 e2 hv => by
    obtain ⟨a, rfl, hx⟩ := hv
    exact ⟨a, rfl, ⟨xs, SqT.of hx⟩, fun D hD => lcw (walk_tup (K := K) (a := a) (xs := xs)) hD hn keep O (fun H' s => s.st (SqT.of hx)) (fun i H x H' y => by obtain ⟨rfl, _⟩ := y; exact Same.refl _)
      (fun i x H' Hy hi s y Qg k => by
        obtain ⟨rfl, hxi⟩ := y
        exact k _ _ (Same.refl _) (hw x) (ht i x _ hxi ((e.trans e2).trans s)) (fun kp => he i x _ hxi ((e.trans e2).trans s) kp))
      (fun H' s r => q _ H' (e2.trans s) r)⟩
/-- t + u of tuples -/
theorem e_catA {a : Addr} {xs ys : List V} (ha : EvP ta σ H (isV (.ref a))) (hx : H a = some (.tup xs)) (hb : EvP tb σ H (isT ys)) (hy : ys ≠ []) (hz : xs.length + ys.length ≤ 1000000) : EvP (tOp (rCatA K) ta tb) σ H (isT (xs ++ ys)) := fun H1 e Q q =>
  ha H1 e _ fun v H2 e2 hv => hb H2 (e.trans e2) _ fun v2 H3 e3 hv2 => by
    cases hv
    obtain ⟨b, rfl, hb2⟩ := hv2
    have g := ((e.trans e2).trans e3) _ _ hx
    refine ⟨a, b, xs, ys, rfl, rfl, SqT.of g, SqT.of hb2, sz_ok hz, fun z => ?_, fun _ z => absurd z hy, fun _ _ p hp => q _ _ ((e2.trans e3).trans (Same.new hp)) ⟨p, rfl, upd_same⟩⟩
    subst z
    exact q _ _ (e2.trans e3) ⟨b, rfl, hb2⟩
end
end Wk
end
/-! ### WFe2 -/
section
set_option Elab.async false
set_option linter.all false
set_option maxRecDepth 100000
set_option maxHeartbeats 2000000
namespace Wk
open PySem PySem.Spec PyProof.Rows L2
open LsGeo (Pt)
open LsRefs (Sheet)
/-! sheets and features in the heap -/
def ShAt (H : Hp) (a : Addr) (c : Sheet) : Prop := H a = some (.tup (c.map fun (d : Nat) => V.int d))
def RSh (c : Sheet) : RR := fun v H => ∃ a, v = .ref a ∧ ShAt H a c
theorem ShAt.mono {H H' : Hp} {a : Addr} {c : Sheet} (e : Same H H') (h : ShAt H a c) : ShAt H' a c := e _ _ h
instance (c : Sheet) : Mono (RSh c) := ⟨fun e ⟨a, h1, h2⟩ => ⟨a, h1, e _ _ h2⟩⟩
instance (c : Sheet) : Stab (RSh c) := ⟨fun {v H D acc acc'} e ⟨a, h1, h2⟩ => ⟨a, h1, by
  have h2' : H a = some (.tup (c.map fun (d : Nat) => V.int d)) := h2
  show upd H D _ a = _
  rw [upd_ne (ne_of h2' e (by intro z; cases z))]; exact h2⟩⟩
theorem lk_here {k : Str} {v : V} {r : List (Str × V)} : List.lookup k ((k, v) :: r) = some v := by
  have e : (k == k) = true := beq_self_eq_true k
  simp only [List.lookup, e]
theorem lk_past {k g : Str} {v : V} {r : List (Str × V)} (h : (k == g) = false) : List.lookup k ((g, v) :: r) = List.lookup k r := by
  simp only [List.lookup, h]
theorem put_here {f : Str} {v x : V} {r : List (Str × V)} : putF f v ((f, x) :: r) = (f, v) :: r := if_pos rfl
theorem put_past {f g : Str} {v x : V} {r : List (Str × V)} (h : ¬ g = f) : putF f v ((g, x) :: r) = (g, x) :: putF f v r := if_neg h
def ftF (c : Int) (na : Addr) (k : Int) (pa ba : Addr) : List (Str × V) := [("group", .int c), ("name", .ref na), ("kind", .int k), ("places", .ref pa), ("box", .ref ba)]
section
variable {c k : Int} {na pa ba : Addr}
theorem ftF_group : (ftF c na k pa ba).lookup ("group" : Str) = some (.int c) := lk_here
theorem ftF_name : (ftF c na k pa ba).lookup ("name" : Str) = some (.ref na) := (lk_past (by decide +kernel)).trans lk_here
theorem ftF_kind : (ftF c na k pa ba).lookup ("kind" : Str) = some (.int k) := (lk_past (by decide +kernel)).trans ((lk_past (by decide +kernel)).trans lk_here)
theorem ftF_places : (ftF c na k pa ba).lookup ("places" : Str) = some (.ref pa) := (lk_past (by decide +kernel)).trans ((lk_past (by decide +kernel)).trans ((lk_past (by decide +kernel)).trans lk_here))
theorem ftF_box : (ftF c na k pa ba).lookup ("box" : Str) = some (.ref ba) := (lk_past (by decide +kernel)).trans ((lk_past (by decide +kernel)).trans ((lk_past (by decide +kernel)).trans ((lk_past (by decide +kernel)).trans lk_here)))
theorem ftF_new : putF "box" (.ref ba) (putF "places" (.ref pa) (putF "kind" (.int k) (putF "name" (.ref na) (putF "group" (.int c) [])))) = ftF c na k pa ba := by
  show putF "box" (.ref ba) (putF "places" (.ref pa) (putF "kind" (.int k) (putF "name" (.ref na) [("group", .int c)]))) = _
  rw [put_past (by decide +kernel)]
  show putF "box" (.ref ba) (putF "places" (.ref pa) (putF "kind" (.int k) [("group", .int c), ("name", .ref na)])) = _
  rw [put_past (by decide +kernel), put_past (by decide +kernel)]
  show putF "box" (.ref ba) (putF "places" (.ref pa) [("group", .int c), ("name", .ref na), ("kind", .int k)]) = _
  rw [put_past (by decide +kernel), put_past (by decide +kernel), put_past (by decide +kernel)]
  show putF "box" (.ref ba) [("group", .int c), ("name", .ref na), ("kind", .int k), ("places", .ref pa)] = _
  rw [put_past (by decide +kernel), put_past (by decide +kernel), put_past (by decide +kernel), put_past (by decide +kernel)]
  rfl
end
def nb (b : List UInt8) : List Int := b.map fun c => (c.toNat : Int)
/-- what a feature may be -/
structure goodF (f : LsLand.Feature) : Prop where
  n1 : 1 ≤ f.number
  n2 : f.number ≤ 9999
  cl : f.cls ≤ 31
  nm : f.name.length ≤ 40
  sh : Ge.okS f.shape
  pl : f.shape.places.length ≤ 64
  pb : ∀ p ∈ f.shape.places, Ge.inB p
def FtAt (A : Ad) (H : Hp) (a : Addr) (f : LsLand.Feature) : Prop := ∃ dx na pa ba, H a = some (.ins A.aFeature dx (ftF f.cls na (EditSpec.kindOf f.shape) pa ba)) ∧ H na = some (.lst ((nb f.name).map V.int)) ∧ LstAt RPt H pa f.shape.places ∧ GAt H ba (boxP f.shape.places)
theorem FtAt.mono {A : Ad} {H H' : Hp} {a : Addr} {f : LsLand.Feature} (e : Same H H') (h : FtAt A H a f) : FtAt A H' a f := by
  obtain ⟨dx, na, pa, ba, h1, h2, h3, h4⟩ := h
  exact ⟨dx, na, pa, ba, e _ _ h1, e _ _ h2, h3.mono e, h4.mono e⟩
def RFt (A : Ad) (f : LsLand.Feature) : RR := fun v H => ∃ a, v = .ref a ∧ FtAt A H a f
instance (A : Ad) (f : LsLand.Feature) : Mono (RFt A f) := ⟨fun e ⟨a, h1, h2⟩ => ⟨a, h1, h2.mono e⟩⟩
theorem inB_bp {p : Pt} (h : Ge.inB p) : bp p := by unfold Ge.inB at h; unfold bp; omega
theorem goodF.bps {f : LsLand.Feature} (g : goodF f) : bps f.shape.places := fun p hp => inB_bp (g.pb p hp)
section
variable {P : Program} {w : World} {K : PySem.W.Frag} {mg : Str → Option Value} {base : Heap} {A : Ad} {σ : L2.St} {H B : Hp} {ta tb te : TE} {R : RR}
theorem e_group (T : Txt K mg A) {a : Addr} {f : LsLand.Feature} (ha : EvP ta σ H (isV (.ref a))) (h : FtAt A H a f) : EvP (tFld K ta "group") σ H (isV (.int f.cls)) := by
  obtain ⟨dx, na, pa, ba, h1, _⟩ := h
  exact e_fld ha h1 T.cl_Feature T.n_Feature_group ftF_group
theorem e_kind (T : Txt K mg A) {a : Addr} {f : LsLand.Feature} (ha : EvP ta σ H (isV (.ref a))) (h : FtAt A H a f) : EvP (tFld K ta "kind") σ H (isV (.int (EditSpec.kindOf f.shape))) := by
  obtain ⟨dx, na, pa, ba, h1, _⟩ := h
  exact e_fld ha h1 T.cl_Feature T.n_Feature_kind ftF_kind
theorem e_name (T : Txt K mg A) {a : Addr} {f : LsLand.Feature} (ha : EvP ta σ H (isV (.ref a))) (h : FtAt A H a f) : EvP (tFld K ta "name") σ H (isL ((nb f.name).map V.int)) := by
  obtain ⟨dx, na, pa, ba, h1, h2, _⟩ := h
  exact (e_fld ha h1 T.cl_Feature T.n_Feature_name ftF_name).imp fun v H1 s e => by cases e; exact ⟨na, rfl, s _ _ h2⟩
theorem e_places (T : Txt K mg A) {a : Addr} {f : LsLand.Feature} (ha : EvP ta σ H (isV (.ref a))) (h : FtAt A H a f) : EvP (tFld K ta "places") σ H (RLst RPt f.shape.places) := by
  obtain ⟨dx, na, pa, ba, h1, h2, h3, _⟩ := h
  exact (e_fld ha h1 T.cl_Feature T.n_Feature_places ftF_places).imp fun v H1 s e => by cases e; exact ⟨pa, rfl, h3.mono s⟩
theorem e_box (T : Txt K mg A) {a : Addr} {f : LsLand.Feature} (ha : EvP ta σ H (isV (.ref a))) (h : FtAt A H a f) : EvP (tFld K ta "box") σ H (isB (boxP f.shape.places)) := by
  obtain ⟨dx, na, pa, ba, h1, h2, h3, h4⟩ := h
  exact (e_fld ha h1 T.cl_Feature T.n_Feature_box ftF_box).imp fun v H1 s e => by cases e; exact ⟨ba, rfl, s _ _ h4⟩
/-- a constant of the module -/
theorem e_const {v : V} : EvP (tC v) σ H (isV v) := ev_c
theorem apart_eq (s : LsGeo.Shape) (q : Int × Int × Int × Int) : apartQ (boxP s.places) q = Ge.apartB s q.1 q.2.1 q.2.2.1 q.2.2.2 := by
  unfold apartQ Ge.apartB LsBook.boxOf boxP
  simp only [gt_iff_lt]
  rw [Bool.eq_iff_iff]
  split
  · rename_i h
    simp only [Bool.or_eq_true, decide_eq_true_eq, iff_true]
    exact .inl h
  · rename_i h
    simp only [Bool.or_eq_true, decide_eq_true_eq]
    constructor
    · rintro (z | z)
      · exact absurd z h
      · exact z
    · intro z; exact .inr z
def sp_stands_on (K : PySem.W.Frag) (A : Ad) : Sp := pure fun vs H R => ∃ a g f q, vs = [.ref a, .ref g] ∧ FtAt A H a f ∧ goodF f ∧ GAt H g q ∧ bx q ∧ R = isV (.bl (Ge.standsOn f.shape q.1 q.2.1 q.2.2.1 q.2.2.2))
theorem ok_stands_on (T : Txt K mg A) (c_any_touches : C8.Cal P w K mg base 3 "any_touches" (sp_any_touches K A) []) (c_boxes_apart : C8.Cal P w K mg base 1 "boxes_apart" (sp_boxes_apart K A) []) (c_lies_within : C8.Cal P w K mg base 2 "lies_within" (sp_lies_within K A) []) (c_sides_of : C8.Cal P w K mg base 2 "sides_of" (sp_sides_of K A) []) (c_ways_of : C8.Cal P w K mg base 1 "ways_of" (sp_ways_of K A) []) {f : Addr} {fd : FuncData} (F : C8.Def K mg "stands_on" s_stands_on f fd) (bb : Binds K fd ["feature", "ground"] []) : C8.Cal P w K mg base 4 "stands_on" (sp_stands_on K A) [] := by
  refine C8.cal0 F bb .nil sc_stands_on (fun vs H Q E h => ?_) (fun cdv Ar outer s H vs Q E hr h => ?_)
  · obtain ⟨R, ⟨a, g, f, q, rfl, _⟩, _⟩ := h
    rfl
  · obtain ⟨R, ⟨a, g, f, q, rfl, hf, gf, hg, bq, rfl⟩, k⟩ := h
    have pne := Ge.places_ne gf.sh
    have gl := gf.pl
    show ∃ t, _ ∧ _
    refine ⟨_, (pss_cons (ps_if (pt_val (C8.pe_c c_boxes_apart hr (by decide) rfl (pa_cons (pe_fld (pv 0) rfl) (pa_cons (pv 1) pa_nil)))) (pss_one (ps_ret pe_bl)) pss_nil) (pss_cons (ps_if (pt_cmpR op_eq (pe_fld (pv 0) rfl) (C8.pe_gc rfl T.g_SPOT) (nomark _)) (pss_one (ps_ret pe_bl)) pss_nil) (pss_cons (ps_if (pt_cmpR op_eq (pe_fld (pv 0) rfl) (C8.pe_gc rfl T.g_LINE) (nomark _)) (pss_one (ps_ret (C8.pe_c c_any_touches hr (by decide) rfl (pa_cons (C8.pe_c c_ways_of hr (by decide) rfl (pa_cons (pe_fld (pv 0) rfl) pa_nil)) (pa_cons (pv 1) pa_nil))))) pss_nil) (pss_cons (ps_set (i := 2) sc_stands_on.nd rfl (Or.inl rfl) (C8.pe_c c_sides_of hr (by decide) rfl (pa_cons (pe_fld (pv 0) rfl) pa_nil))) (pss_cons (ps_if (pt_val (C8.pe_c c_any_touches hr (by decide) rfl (pa_cons (pv 2) (pa_cons (pv 1) pa_nil)))) (pss_one (ps_ret pe_bl)) pss_nil) (pss_one (ps_ret (C8.pe_c c_lies_within hr (by decide) rfl (pa_cons (pe_tup (pa_cons (pe_ix ix_tup (pv 1) pe_int (fun _ _ => rfl)) (pa_cons (pe_ix ix_tup (pv 1) pe_int (fun _ _ => rfl)) pa_nil))) (pa_cons (pv 2) pa_nil)))))))))), body (s_when (b := Ge.apartB f.shape q.1 q.2.1 q.2.2.1 q.2.2.2) (et_B (e_call (ea_consG (e_box T (ev_var rfl) hf) fun H1 s => ea_v1 rfl) fun vs H1 e hv => ?_)) (fun c => s_ret (Same.refl _) (ev_c.is ?_)) fun c => s_when (et_test (e_eq (e_kind T (ev_var rfl) hf) ev_c)) (fun c1 => s_ret (Same.refl _) (ev_c.is ?_)) fun c1 => s_when (et_test (e_eq (e_kind T (ev_var rfl) hf) ev_c)) (fun c2 => s_ret (Same.refl _) ?_) fun c2 => ?_) k⟩
    · obtain ⟨v, r, rfl, ⟨b, rfl, hb⟩, hr⟩ := hv
      cases hr
      exact ⟨b, g, _, q, rfl, hb, hg.mono e, by rw [apart_eq]⟩
    · refine congrArg V.bl ?_
      unfold Ge.standsOn; rw [if_pos c]
    · refine congrArg V.bl ?_
      unfold Ge.standsOn; rw [if_neg (by rw [c]; decide)]
      cases e : f.shape with
      | spot p => rfl
      | line l => rw [e] at c1; simp [EditSpec.kindOf] at c1
      | area l => rw [e] at c1; simp [EditSpec.kindOf] at c1
    · have hl : ∃ l, f.shape = .line l := by
        cases e : f.shape with
        | spot p => rw [e] at c2; simp [EditSpec.kindOf] at c2
        | line l => exact ⟨l, rfl⟩
        | area l => rw [e] at c2; simp [EditSpec.kindOf] at c2
      obtain ⟨l, e⟩ := hl
      have ep : f.shape.places = l := by rw [e]; rfl
      have e0 : Ge.standsOn f.shape q.1 q.2.1 q.2.2.1 q.2.2.2 = Ge.anyTouches (l.zip (l.drop 1)) q.1 q.2.1 q.2.2.1 q.2.2.2 := by
        unfold Ge.standsOn; rw [if_neg (by rw [c]; decide), e]
      have pl := e_places T (ta := tVar 0) (σ := start N_stands_on [V.ref a, V.ref g]) (ev_var rfl) hf
      have gb := gf.bps
      rw [ep] at pl gb gl
      show EvP _ _ H (isV (.bl (Ge.standsOn f.shape q.1 q.2.1 q.2.2.1 q.2.2.2)))
      rw [e0]
      refine e_call (ea_consG (R := RLst RWay (l.zip (l.drop 1))) (e_call (ea_consG pl fun _ _ => ea_nil) fun vs H1 e hv => ?_) fun H1 s => ea_v1 rfl) fun vs H1 e hv => ?_
      · obtain ⟨v, r, rfl, ⟨b, rfl, hb⟩, hr⟩ := hv
        cases hr
        exact ⟨b, l, rfl, hb, by omega, rfl⟩
      · obtain ⟨v, r, rfl, ⟨b, rfl, hb⟩, hr⟩ := hv
        cases hr
        refine ⟨b, g, _, q, rfl, hb, hg.mono e, fun w hw => ?_, bq, rfl⟩
        have m := Ge.mem_zip1 hw
        exact ⟨gb _ m.1, gb _ m.2⟩
    · have hl : ∃ l, f.shape = .area l := by
        cases e : f.shape with
        | spot p => rw [e] at c1; simp [EditSpec.kindOf] at c1
        | line l => rw [e] at c2; simp [EditSpec.kindOf] at c2
        | area l => exact ⟨l, rfl⟩
      obtain ⟨l, e⟩ := hl
      have ep : f.shape.places = l := by rw [e]; rfl
      have e0 : Ge.standsOn f.shape q.1 q.2.1 q.2.2.1 q.2.2.2 = (if Ge.anyTouches (LsGeo.sides l) q.1 q.2.1 q.2.2.1 q.2.2.2 = true then true else Ge.odd (Ge.east ⟨q.1, q.2.1⟩) (LsGeo.sides l)) := by
        unfold Ge.standsOn; rw [if_neg (by rw [c]; decide), e]
      have pl := e_places T (ta := tVar 0) (σ := start N_stands_on [V.ref a, V.ref g]) (ev_var rfl) hf
      have gb := gf.bps
      rw [ep] at pl gb gl pne
      refine s_set (Ra := RLst RWay (LsGeo.sides l)) (e_call (ea_consG pl fun _ _ => ea_nil) fun vs H1 e hv => ?_) fun v H1 s1 hv => ?_
      · obtain ⟨v, r, rfl, ⟨b, rfl, hb⟩, hr⟩ := hv
        cases hr
        exact ⟨b, l, rfl, hb, by omega, pne, rfl⟩
      · obtain ⟨b, rfl, hb⟩ := hv
        refine s_when (et_B (e_callV (ea_v2 rfl rfl) fun H2 e => ⟨b, g, _, q, rfl, hb.mono e, hg.mono (s1.trans e), side_bp gb, bq, rfl⟩)) (fun c3 => s_ret s1 (ev_c.is ?_)) fun c3 => s_ret s1 ?_
        · refine congrArg V.bl ?_
          rw [e0, if_pos c3]
        · show EvP _ _ H1 (isV (.bl (Ge.standsOn f.shape q.1 q.2.1 q.2.2.1 q.2.2.2)))
          rw [e0, if_neg (by rw [c3]; decide)]
          have hg1 := s1 _ _ hg
          refine e_call (ea_consG (R := isT [.int q.1, .int q.2.1]) (e_tup (ea_cons (e_ixT0 (ev_var rfl) hg1) (ea_cons (e_ixT1 (ev_var rfl) hg1) ea_nil)) (by show 2 ≤ 1000000; decide)) fun H2 s => ea_v1 rfl) fun vs H2 e hv => ?_
          obtain ⟨v, r, rfl, ⟨d, rfl, hd⟩, hr⟩ := hv
          cases hr
          unfold bx at bq
          exact ⟨d, b, _, ⟨q.1, q.2.1⟩, rfl, hd, hb.mono e, side_bp gb, by unfold bp; simp only; omega, rfl⟩
def sp_ground_of (K : PySem.W.Frag) (A : Ad) : Sp := pure fun vs H R => ∃ a c, vs = [.ref a] ∧ ShAt H a c ∧ R = isB (Ge.ground c)
theorem boxOf_take {c : Sheet} {i d : Nat} (h : c[i]? = some d) : LsRefs.boxOf (c.take (i + 1)) = LsRefs.quarter (LsRefs.boxOf (c.take i)) d := by
  obtain ⟨hi, e⟩ := List.getElem?_eq_some_iff.mp h
  rw [← List.take_append_getElem hi, e, Ge.boxOf_app]
theorem in_two (d a b : Nat) : inV (.int (d : Int)) [.int (a : Int), .int (b : Int)] = decide (d = a ∨ d = b) := by
  unfold inV eqV
  simp only [List.any_cons, List.any_nil, Bool.or_false]
  rw [Bool.eq_iff_iff]
  simp only [Bool.or_eq_true, beq_iff_eq, decide_eq_true_eq]
  omega
theorem ok_ground_of (T : Txt K mg A)  {f : Addr} {fd : FuncData} (F : C8.Def K mg "ground_of" s_ground_of f fd) (bb : Binds K fd ["sheet"] []) : C8.Cal P w K mg base 1 "ground_of" (sp_ground_of K A) [] := by
  refine C8.cal0 F bb .nil sc_ground_of (fun vs H Q E h => ?_) (fun cdv Ar outer s H vs Q E hr h => ?_)
  · obtain ⟨R, ⟨a, c, rfl, _⟩, _⟩ := h
    rfl
  · obtain ⟨R, ⟨a, c, rfl, hA, rfl⟩, k⟩ := h
    refine ⟨_, (pss_cons (ps_set (i := 1) sc_ground_of.nd rfl (Or.inl rfl) pe_int) (pss_cons (ps_set (i := 2) sc_ground_of.nd rfl (Or.inl rfl) pe_int) (pss_cons (ps_set (i := 3) sc_ground_of.nd rfl (Or.inl rfl) (C8.pe_gc rfl T.g_LAND_SIDE)) (pss_cons (ps_for PassesOwn.never rfl (pi_tup (pv 0)) (pg_name (i := 4) sc_ground_of.nd rfl (Or.inl rfl)) (pss_cons (ps_set (i := 3) sc_ground_of.nd rfl (Or.inl rfl) (pe_op op_fdiv (pv 3) pe_int)) (pss_cons (ps_if (pt_cmpR op_in_seq (pv 4) (C8.pe_gc rfl T.g_EASTERN) (by rfl)) (pss_one (ps_aug (i := 1) sc_ground_of.nd rfl (Or.inl rfl) (pv 3) ip_add)) pss_nil) (pss_one (ps_if (pt_cmpR op_in_seq (pv 4) (C8.pe_gc rfl T.g_NORTHERN) (by rfl)) (pss_one (ps_aug (i := 2) sc_ground_of.nd rfl (Or.inl rfl) (pv 3) ip_add)) pss_nil))))) (pss_one (ps_ret (pe_tup (pa_cons (pv 1) (pa_cons (pv 2) (pa_cons (pe_op op_add (pv 1) (pv 3)) (pa_cons (pe_op op_add (pv 2) (pv 3)) pa_nil))))))))))), body (s_set ev_c fun v H1 s1 hv => ?_) k⟩
    cases hv
    refine s_set ev_c fun v H2 s2 hv => ?_
    cases hv
    refine s_set ev_c fun v H3 s3 hv => ?_
    cases hv
    have hA3 := (s1.trans (s2.trans s3)) _ _ hA
    refine s_seq (M := fun σ' _ => ∃ v, σ' = [some (.ref a), some (.int (LsRefs.boxOf c).x), some (.int (LsRefs.boxOf c).y), some (.int (LsRefs.boxOf c).side), v]) (s_forQT (s1.trans (s2.trans s3)) (ev_var rfl) (SqT.of hA3)
      (fun i σ' => ∃ v, σ' = [some (.ref a), some (.int (LsRefs.boxOf (c.take i)).x), some (.int (LsRefs.boxOf (c.take i)).y), some (.int (LsRefs.boxOf (c.take i)).side), v]) ⟨_, rfl⟩ (fun i x σ' H' hx s p => ?_) fun σ' H' s p => ?_) fun σ' H4 s4 hM => ?_
    · obtain ⟨v, rfl⟩ := p
      rw [List.getElem?_map] at hx
      obtain ⟨d, hd, rfl⟩ := Option.map_eq_some_iff.mp hx
      rw [boxOf_take hd]
      generalize LsRefs.boxOf (c.take i) = q
      refine s_set (ev_op (ev_var rfl) ev_c (rv_I (g := fun i j => V.int (i / j)) (C := CDiv) (i := (q.side : Int)) (j := 2) ⟨by decide, by decide⟩)) fun v H5 s5 hv => ?_
      cases hv
      have side2 : (q.side : Int) / 2 = ((q.side / 2 : Nat) : Int) := by omega
      rw [side2]
      refine s_seq (M := fun σ2 _ => σ2 = [some (.ref a), some (.int ((LsRefs.quarter q d).x : Int)), some (.int q.y), some (.int ((q.side / 2 : Nat) : Int)), some (.int d)]) (s_if (b := decide (d = 2 ∨ d = 4)) (et_test (e_inW (ev_var rfl) ev_c (T.w_EASTERN H5) rfl rfl (in_two d 2 4))) (fun c1 => s_augN (f := fun i j => i + j) s5 rfl (ev_var rfl) fun H6 s6 => ?_) fun c1 => s_nx fun H6 e => ⟨s5.trans e, ?_⟩) fun σ2 H6 s6 h6 => ?_
      · have z : (LsRefs.quarter q d).x = q.x + q.side / 2 := by unfold LsRefs.quarter; simp only; rw [if_pos (of_decide_eq_true c1)]
        rw [z]
        have z2 : ((q.x + q.side / 2 : Nat) : Int) = (q.x : Int) + ((q.side / 2 : Nat) : Int) := by omega
        rw [z2]; rfl
      · have z : (LsRefs.quarter q d).x = q.x := by unfold LsRefs.quarter; simp only; rw [if_neg (of_decide_eq_false c1)]
        rw [z]; rfl
      · subst h6
        refine s_if (b := decide (d = 1 ∨ d = 2)) (et_test (e_inW (ev_var rfl) ev_c (T.w_NORTHERN H6) rfl rfl (in_two d 1 2))) (fun c1 => s_augN (f := fun i j => i + j) s6 rfl (ev_var rfl) fun H7 s7 => ⟨some (.int d), ?_⟩) fun c1 => s_nx fun H7 e => ⟨s6.trans e, some (.int d), ?_⟩
        · have z : (LsRefs.quarter q d).y = q.y + q.side / 2 := by unfold LsRefs.quarter; simp only; rw [if_pos (of_decide_eq_true c1)]
          rw [z]
          have z2 : ((q.y + q.side / 2 : Nat) : Int) = (q.y : Int) + ((q.side / 2 : Nat) : Int) := by omega
          rw [z2]; rfl
        · have z : (LsRefs.quarter q d).y = q.y := by unfold LsRefs.quarter; simp only; rw [if_neg (of_decide_eq_false c1)]
          rw [z]; rfl
    · rw [List.length_map, List.take_length] at p
      exact p
    · obtain ⟨v, rfl⟩ := hM
      refine s_ret s4 ((e_tup (ea_cons (ev_var rfl) (ea_cons (ev_var rfl) (ea_cons (e_add (ev_var rfl) (ev_var rfl)) (ea_cons (e_add (ev_var rfl) (ev_var rfl)) ea_nil)))) (by show 4 ≤ 1000000; decide)).imp fun v H5 _ r => ?_)
      obtain ⟨p, rfl, hp⟩ := r
      refine ⟨p, rfl, ?_⟩
      rw [hp]
      have z1 : (((LsRefs.boxOf c).x + (LsRefs.boxOf c).side : Nat) : Int) = ((LsRefs.boxOf c).x : Int) + ((LsRefs.boxOf c).side : Int) := by omega
      have z2 : (((LsRefs.boxOf c).y + (LsRefs.boxOf c).side : Nat) : Int) = ((LsRefs.boxOf c).y : Int) + ((LsRefs.boxOf c).side : Int) := by omega
      unfold Ge.ground
      simp only [z1, z2]
def sp_quarters_of (K : PySem.W.Frag) (A : Ad) : Sp := pure fun vs H R => ∃ a c, vs = [.ref a] ∧ ShAt H a c ∧ c.length ≤ 100 ∧ R = RLst RSh ([1, 2, 3, 4].map fun d => c ++ [d])
theorem ok_quarters_of (T : Txt K mg A)  {f : Addr} {fd : FuncData} (F : C8.Def K mg "quarters_of" s_quarters_of f fd) (bb : Binds K fd ["sheet"] []) : C8.Cal P w K mg base 1 "quarters_of" (sp_quarters_of K A) [] := by
  refine C8.cal0 F bb .nil sc_quarters_of (fun vs H Q E h => ?_) (fun cdv Ar outer s H vs Q E hr h => ?_)
  · obtain ⟨R, ⟨a, c, rfl, _⟩, _⟩ := h
    rfl
  · obtain ⟨R, ⟨a, c, rfl, hA, hl, rfl⟩, k⟩ := h
    refine ⟨_, (pss_one (ps_ret (pe_lc (own := [("quarter", 1)]) (tt := tYes) rfl sc_quarters_of.nd (pi_tup (pe_tup (pa_cons pe_int (pa_cons pe_int (pa_cons pe_int (pa_cons pe_int pa_nil)))))) (blkOk_by (own := [("quarter", 1)]) (N := N_quarters_of) (sc := C8.fnScope s_quarters_of) (by decide +kernel)) (fun _ _ _ _ _ => (pg_name (i := 1) sc_quarters_of.nd rfl (Or.inl rfl))) (fun _ _ _ _ _ => pts_nil) (fun _ _ _ _ _ => (pe_op (r := rCatA K) op_catA (pv 0) (pe_tup (pa_cons (pv 1) pa_nil))))))), body (s_ret (Same.refl _) ?_) k⟩
    refine (e_lcTN (xs := [.int 1, .int 2, .int 3, .int 4]) (fun _ => true) (fun i => Ro RSh (([1, 2, 3, 4].map fun d => c ++ [d])[i]?)) (e_tup (ea_cons ev_c (ea_cons ev_c (ea_cons ev_c (ea_cons ev_c ea_nil)))) (by show 4 ≤ 1000000; decide)) (by show 4 ≤ 1000000; decide) (fun _ => rfl) (fun _ _ _ _ _ => et_yes) fun i x H' hx s _ => ?_).imp fun v H1 _ r => rlst_all rfl r
    have key : ∀ d : Nat, EvP (tOp (rCatA K) (tVar 0) (tTup (tCons (tVar 1) tNil))) ((wipe (start N_quarters_of [V.ref a]) (List.map Prod.snd [(("quarter" : Str), 1)])).set 1 (some (.int d))) H' (RSh (c ++ [d])) := fun d => by
      refine (e_catA (ys := [.int d]) (ev_var rfl) (s _ _ hA) (e_tup (ea_v1 rfl) (by show 1 ≤ 1000000; decide)) (by simp) (by simp; omega)).imp fun v H2 _ r => ?_
      obtain ⟨p, rfl, hp⟩ := r
      refine ⟨p, rfl, ?_⟩
      show H2 p = _
      rw [hp]; simp
    match i, hx with
    | 0, hx => cases hx; exact key 1
    | 1, hx => cases hx; exact key 2
    | 2, hx => cases hx; exact key 3
    | 3, hx => cases hx; exact key 4
    | n + 4, hx => simp at hx
end
end Wk
end
/-! ### WFe3 -/
section
set_option Elab.async false
set_option linter.all false
set_option maxRecDepth 100000
set_option maxHeartbeats 2000000
namespace Wk
open PySem PySem.Spec PyProof.Rows L2
open LsGeo (Pt)
open LsRefs (Sheet)
section
variable {P : Program} {w : World} {K : PySem.W.Frag} {mg : Str → Option Value} {base : Heap} {A : Ad} {σ : L2.St} {H B : Hp} {ta tb te : TE} {R : RR}
def sp_sheets_of (K : PySem.W.Frag) (A : Ad) : Sp := pure fun vs H R => ∃ (a : Addr) (f : LsLand.Feature) (s : Nat), vs = [.ref a, .int s] ∧ FtAt A H a f ∧ goodF f ∧ s ≤ 6 ∧ R = RLst RSh (Ge.sheetsFrom f s [[]])
theorem ground_bx {c : Sheet} : bx (Ge.ground c) := by
  have key : ∀ (l : Sheet) (q : LsRefs.Square), q.x + q.side ≤ 1000000 → q.y + q.side ≤ 1000000 → (l.foldl LsRefs.quarter q).x + (l.foldl LsRefs.quarter q).side ≤ 1000000 ∧ (l.foldl LsRefs.quarter q).y + (l.foldl LsRefs.quarter q).side ≤ 1000000 := fun l => by
    induction l with
    | nil => intro q h1 h2; exact ⟨h1, h2⟩
    | cons d l ih =>
      intro q h1 h2
      refine ih (LsRefs.quarter q d) ?_ ?_
      · unfold LsRefs.quarter; simp only; split <;> omega
      · unfold LsRefs.quarter; simp only; split <;> omega
  have := key c ⟨0, 0, LsRefs.LAND⟩ (by decide) (by decide)
  have e : LsRefs.boxOf c = c.foldl LsRefs.quarter ⟨0, 0, LsRefs.LAND⟩ := rfl
  rw [← e] at this
  unfold bx Ge.ground
  simp only
  omega
theorem quarts_len {f : LsLand.Feature} {c d : Sheet} (h : d ∈ Ge.quarts f c) : d.length = c.length + 1 := by
  unfold Ge.quarts at h
  rw [List.mem_filter, List.mem_map] at h
  obtain ⟨⟨x, _, rfl⟩, _⟩ := h
  simp
theorem quarts_four {f : LsLand.Feature} {c : Sheet} : (Ge.quarts f c).length ≤ 4 := by
  unfold Ge.quarts
  exact Nat.le_trans (List.length_filter_le _ _) (by simp)
theorem flat_four {f : LsLand.Feature} : ∀ l : List Sheet, (l.flatMap (Ge.quarts f)).length ≤ 4 * l.length
  | [] => by simp
  | c :: l => by
    have := flat_four (f := f) l
    have := quarts_four (f := f) (c := c)
    rw [List.flatMap_cons, List.length_append, List.length_cons]; omega
theorem take_flat {α β : Type} {g : α → List β} {l : List α} {i : Nat} {x : α} (h : l[i]? = some x) : (l.take (i + 1)).flatMap g = (l.take i).flatMap g ++ g x := by
  obtain ⟨hi, e⟩ := List.getElem?_eq_some_iff.mp h
  rw [← List.take_append_getElem hi, List.flatMap_append, e]; simp
theorem ok_sheets_of (T : Txt K mg A) (c_ground_of : C8.Cal P w K mg base 1 "ground_of" (sp_ground_of K A) []) (c_quarters_of : C8.Cal P w K mg base 1 "quarters_of" (sp_quarters_of K A) []) (c_stands_on : C8.Cal P w K mg base 4 "stands_on" (sp_stands_on K A) []) {f : Addr} {fd : FuncData} (F : C8.Def K mg "sheets_of" s_sheets_of f fd) (bb : Binds K fd ["feature", "series"] []) : C8.Cal P w K mg base 5 "sheets_of" (sp_sheets_of K A) [] := by
  refine C8.cal0 F bb .nil sc_sheets_of (fun vs H Q E h => ?_) (fun cdv Ar outer s H vs Q E hr h => ?_)
  · obtain ⟨R, ⟨a, f, s, rfl, _⟩, _⟩ := h
    rfl
  · obtain ⟨R, ⟨a, f, ser, rfl, hf, gf, hs, rfl⟩, k⟩ := h
    refine ⟨_, (pss_cons (ps_set (i := 2) sc_sheets_of.nd rfl (Or.inl rfl) (pe_lst (pa_cons (pe_tup pa_nil) pa_nil))) (pss_cons (ps_for PassesOwn.never rfl (pi_range1 rfl T.range (pa_cons (pv 1) pa_nil)) (pg_name (i := 3) sc_sheets_of.nd rfl (Or.inl rfl)) (pss_cons (ps_set (i := 4) sc_sheets_of.nd rfl (Or.inl rfl) (pe_lst pa_nil)) (pss_cons (ps_for PassesOwn.never rfl (pi_list (pv 2)) (pg_name (i := 5) sc_sheets_of.nd rfl (Or.inl rfl)) (pss_one (ps_expr (pe_bm PySem.F.plainAttrs_list PySem.F.slot_list_extend PySem.F.type_list_extend mt_extend (pv 4) (pa_cons (pe_lc (own := [("part", 6)]) rfl sc_sheets_of.nd (pi_list (C8.pe_c c_quarters_of hr (by decide) rfl (pa_cons (pv 5) pa_nil))) (blkOk_by (own := [("part", 6)]) (N := N_sheets_of) (sc := C8.fnScope s_sheets_of) (by decide +kernel)) (fun _ _ _ _ _ => (pg_name (i := 6) sc_sheets_of.nd rfl (Or.inl rfl))) (fun _ _ _ _ _ => (pts_one (pt_val (C8.pe_c c_stands_on hr (by decide) rfl (pa_cons (pv 0) (pa_cons (C8.pe_c c_ground_of hr (by decide) rfl (pa_cons (pv 6) pa_nil)) pa_nil)))))) (fun _ _ _ _ _ => (pv 6))) pa_nil))))) (pss_cons (ps_set (i := 2) sc_sheets_of.nd rfl (Or.inl rfl) (pv 4)) (pss_one (ps_if (pt_cmpR op_gt (pe_callB call_len_seq (by rfl) T.len (by decide +kernel) (pa_cons (pv 2) pa_nil)) (C8.pe_gc rfl T.g_MOST_SHEETS) (nomark _)) (pss_one (ps_ret (pv 2))) pss_nil)))))) (pss_one (ps_ret (pv 2))))), body (s_set (Ra := RLst RSh [[]]) (e_lst1 ((e_tup (vs := []) ea_nil (by decide)).imp fun v H1 _ r => r)) fun v H1 s1 hv => ?_) k⟩
    obtain ⟨fa0, rfl, hfa0⟩ := hv
    refine s_seq (M := fun σ' H' => ∃ fa v3 v4 v5 v6, σ' = [some (.ref a), some (.int ser), some (.ref fa), v3, v4, v5, v6] ∧ LstAt RSh H' fa (Ge.sheetsFrom f ser [[]])) (s_forR (n0 := ser) s1 (ea_v1 rfl) (by omega) (by omega)
      (fun i σ' H' => ∃ fa cur v3 v4 v5 v6, σ' = [some (.ref a), some (.int ser), some (.ref fa), v3, v4, v5, v6] ∧ LstAt RSh H' fa cur ∧ (∀ c ∈ cur, c.length = i) ∧ cur.length ≤ 64 ∧ Ge.sheetsFrom f (ser - i) cur = Ge.sheetsFrom f ser [[]])
      (fun H2 e => ⟨fa0, [[]], _, _, _, _, rfl, hfa0.mono e, by simp, by simp, rfl⟩) (fun i σ' H' hi sB p => ?_) fun σ' H' sB p => ?_) fun σ' H' s2 hM => ?_
    · obtain ⟨fa, cur, v3, v4, v5, v6, rfl, hfa, hcl, hc64, hrun⟩ := p
      have hf' := hf.mono sB
      refine s_newL sB fun p H2 hp s2 sB2 hBp hl => ?_
      refine s_seq (M := fun σ2 H3 => ∃ v5 v6, σ2 = [some (.ref a), some (.int ser), some (.ref fa), some (.int i), some (.ref p), v5, v6] ∧ LstAt RSh H3 p (cur.flatMap (Ge.quarts f))) (Run.base sB (s_forB (B := H') s2 (ev_var rfl) hfa
        (fun j σ2 H3 => ∃ v5 v6 acc, σ2 = [some (.ref a), some (.int ser), some (.ref fa), some (.int i), some (.ref p), v5, v6] ∧ H3 p = some (.lst acc) ∧ Paired (fun v c => RSh c v H3) acc ((cur.take j).flatMap (Ge.quarts f)))
        (fun H3 e => ⟨_, _, [], rfl, e _ _ hl, .nil⟩) (fun j c v σ2 H3 hj hv s3 q => ?_) fun σ2 H3 s3 q => ?_)) fun σ2 H3 s3 hM => ?_
      · obtain ⟨v5, v6, acc, rfl, hacc, hpr⟩ := q
        obtain ⟨ca, rfl, hca⟩ := hv
        have cl := hcl c (List.mem_of_getElem? hj)
        have hca3 := hca.mono s3
        refine s_extN (F := RSh) (ys := Ge.quarts f c) s3 hp hacc (ev_var rfl) ?_ ?_ fun vs H4 s4 hvs sb => ⟨_, _, acc ++ vs, rfl, upd_same, ?_⟩
        · refine e_lcFN (F := RSh) (G := RSh) (L := [1, 2, 3, 4].map fun d => c ++ [d]) (fun d => LsEdit.stands d f) (e_callV (ea_v1 rfl) fun H4 e => ⟨ca, c, rfl, hca3.mono e, by omega, rfl⟩) (by simp) (fun _ => rfl) (fun d v H4 hd hm s4 => ?_) fun d v H4 hd hm s4 _ => ?_
          · obtain ⟨da, rfl, hda⟩ := hd
            have dl : d.length ≤ 6 := by
              obtain ⟨x, _, rfl⟩ := List.mem_map.mp hm
              simp; omega
            have hf4 := (hf'.mono s3).mono s4
            refine et_B (e_call (ea_cons_var (i := 0) (x := .ref a) rfl (ea_consG (R := isB (Ge.ground d)) (e_callV (ea_v1 rfl) fun H5 e => ⟨da, d, rfl, hda.mono e, rfl⟩) fun _ _ => ea_nil)) fun vs H5 e hv => ?_)
            obtain ⟨rest, rfl, v, r, rfl, ⟨ga, rfl, hga⟩, hr⟩ := hv
            cases hr
            exact ⟨a, ga, f, Ge.ground d, rfl, hf4.mono e, gf, hga, ground_bx, by rw [Ge.standsOn_sheet gf.sh dl]⟩
          · exact (ev_var rfl).imp fun v H5 e hv => by cases hv; exact (inferInstance : Mono (RSh d)).mono e hd
        · have l1 := hpr.len
          have l2 := flat_four (f := f) (cur.take j)
          have l3 : (cur.take j).length ≤ 64 := Nat.le_trans (List.length_take_le' _ _) hc64
          have l4 := quarts_four (f := f) (c := c)
          omega
        · rw [take_flat hj]
          have hD := s4 _ _ hacc
          exact (hpr.monoP fun v x q => (inferInstance : Stab (RSh x)).stab hD ((inferInstance : Mono (RSh x)).mono s4 q)).app (hvs.monoP fun v x q => (inferInstance : Stab (RSh x)).stab hD q)
      · obtain ⟨v5, v6, acc, rfl, hacc, hpr⟩ := q
        rw [List.take_length] at hpr
        exact ⟨_, _, rfl, acc, hacc, hpr⟩
      · obtain ⟨v5, v6, rfl, hfin⟩ := hM
        refine s_set (ev_var rfl) fun v H4 s4 hv => ?_
        cases hv
        have hfin := hfin.mono s4
        obtain ⟨us, g1, g2⟩ := id hfin
        have gl := g2.len
        have er : Ge.sheetsFrom f ser [[]] = (if (cur.flatMap (Ge.quarts f)).length > 64 then cur.flatMap (Ge.quarts f) else Ge.sheetsFrom f (ser - (i + 1)) (cur.flatMap (Ge.quarts f))) := by
          rw [← hrun]
          have z : ser - i = (ser - (i + 1)) + 1 := by omega
          rw [z]; rfl
        refine s_if (et_test (e_gt (e_lenS (ev_var rfl) g1) ev_c)) (fun c1 => s_ret (s3.trans s4) ((ev_var rfl).imp fun v H5 e hv => ?_)) fun c1 => s_nx fun H5 e => ⟨(s3.trans s4).trans e, p, cur.flatMap (Ge.quarts f), _, _, _, _, rfl, hfin.mono e, ?_, ?_, ?_⟩
        · cases hv
          have := of_decide_eq_true c1
          show RLst RSh (Ge.sheetsFrom f ser [[]]) _ _
          rw [er, if_pos (by omega)]
          exact ⟨p, rfl, hfin.mono e⟩
        · intro d hd
          obtain ⟨c, hc, hq⟩ := List.mem_flatMap.mp hd
          rw [quarts_len hq, hcl c hc]
        · have := of_decide_eq_false c1
          omega
        · have := of_decide_eq_false c1
          rw [er, if_neg (by omega)]
    · obtain ⟨fa, cur, v3, v4, v5, v6, rfl, hfa, hcl, hc64, hrun⟩ := p
      rw [Nat.sub_self] at hrun
      exact ⟨fa, _, _, _, _, rfl, by rw [← hrun]; exact hfa⟩
    · obtain ⟨fa, v3, v4, v5, v6, rfl, hfa⟩ := hM
      exact s_ret s2 ((ev_var rfl).imp fun v H5 e hv => by cases hv; exact ⟨fa, rfl, hfa.mono e⟩)
end
end Wk
end
/-! ### GText -/
section
set_option Elab.async false
set_option linter.all false
set_option maxRecDepth 100000
namespace Tx
open LsText LsRefs
/-! texts, codes: plain -/
def okd (c : UInt8) : Bool := decide (49 ≤ c.toNat) && decide (c.toNat ≤ 52)
def faultOf (b : Bytes) : Int := match readCode b with
  | .error p => (p : Int)
  | .ok _ => -1
theorem toNat_inj {a b : UInt8} (h : a.toNat = b.toNat) : a = b := UInt8.toNat_inj.mp h
theorem large_S (c : UInt8) : large c = 83 ↔ (c.toNat = 83 ∨ c.toNat = 115) := by
  have key : ∀ n : Fin 256, (large (UInt8.ofNat n.val) = 83 ↔ (n.val = 83 ∨ n.val = 115)) := by decide +kernel
  have h := key ⟨c.toNat, c.toNat_lt⟩
  simpa using h
theorem tw_len {p : UInt8 → Bool} : ∀ {l : Bytes} {i : Nat}, (∀ j, j < i → ∀ x, l[j]? = some x → p x = true) → (∀ x, l[i]? = some x → p x = false) → i ≤ l.length → (l.takeWhile p).length = i
  | [], i, _, _, h => by simp at h; subst h; rfl
  | c :: r, 0, _, h2, _ => by
    have := h2 c rfl
    rw [List.takeWhile_cons, this]; rfl
  | c :: r, i + 1, h1, h2, h3 => by
    have e := h1 0 (by omega) c rfl
    rw [List.takeWhile_cons, e]
    have ih := tw_len (p := p) (l := r) (i := i) (fun j hj x hx => h1 (j + 1) (by omega) x (by simpa using hx)) (fun x hx => h2 x (by simpa using hx)) (by simpa using h3)
    simp [ih]
theorem tw_ge {p : UInt8 → Bool} : ∀ {l : Bytes} {i : Nat}, (∀ j, j < i → ∀ x, l[j]? = some x → p x = true) → i ≤ l.length → i ≤ (l.takeWhile p).length
  | _, 0, _, _ => by omega
  | [], i + 1, _, h => by simp at h
  | c :: r, i + 1, h1, h3 => by
    have e := h1 0 (by omega) c rfl
    rw [List.takeWhile_cons, e]
    have ih := tw_ge (p := p) (l := r) (i := i) (fun j hj x hx => h1 (j + 1) (by omega) x (by simpa using hx)) (by simpa using h3)
    simp; omega
theorem fault_nil : faultOf [] = 0 := rfl
theorem fault_first {c : UInt8} {r : Bytes} (h : ¬ (c.toNat = 83 ∨ c.toNat = 115)) : faultOf (c :: r) = 0 := by
  unfold faultOf readCode
  have h' : large c ≠ 83 := fun z => h ((large_S c).mp z)
  simp only [if_pos h']; rfl
theorem fault_at {c : UInt8} {r : Bytes} {i : Nat} (h : c.toNat = 83 ∨ c.toNat = 115) (hi : i < r.length) (h1 : ∀ j, j < i → ∀ x, r[j]? = some x → okd x = true) (h6 : i ≤ 6) (hb : i = 6 ∨ ∀ x, r[i]? = some x → okd x = false) : faultOf (c :: r) = ((i + 1 : Nat) : Int) := by
  have h' : ¬ large c ≠ 83 := fun z => z ((large_S c).mpr h)
  have e : (fun (c : UInt8) => decide (49 ≤ c.toNat) && decide (c.toNat ≤ 52)) = okd := rfl
  unfold faultOf readCode
  simp only [if_neg h', e]
  have g := tw_ge (p := okd) (l := r) (i := i) h1 (by omega)
  by_cases k : (r.takeWhile okd).length = i
  · have n6 : ¬ SERIES < (r.takeWhile okd).length := by unfold SERIES; omega
    rw [if_neg n6, if_pos (by omega), k]; simp only; omega
  · have : i = 6 := by
      rcases hb with hb | hb
      · exact hb
      · exact absurd (tw_len h1 hb (by omega)) k
    subst this
    have n6 : SERIES < (r.takeWhile okd).length := by unfold SERIES; omega
    rw [if_pos n6]
theorem tw_all {p : UInt8 → Bool} {l : Bytes} (h : ∀ (j : Nat) x, l[j]? = some x → p x = true) : l.takeWhile p = l := by
  induction l with
  | nil => rfl
  | cons c r ih =>
    rw [List.takeWhile_cons, h 0 c rfl, ih fun j x hx => h (j + 1) x (by simpa using hx)]; rfl
theorem tw_mem {p : UInt8 → Bool} {c : UInt8} : ∀ {l : Bytes}, c ∈ l.takeWhile p → p c = true
  | [], h => by simp at h
  | a :: r, h => by
    rw [List.takeWhile_cons] at h
    by_cases k : p a = true
    · rw [if_pos k] at h
      rcases List.mem_cons.mp h with rfl | h
      · exact k
      · exact tw_mem h
    · rw [if_neg k] at h; simp at h
theorem code_ok {c : UInt8} {r : Bytes} (h : c.toNat = 83 ∨ c.toNat = 115) (h1 : ∀ (j : Nat) x, r[j]? = some x → okd x = true) (h6 : r.length ≤ 6) : readCode (c :: r) = .ok (r.map fun (c : UInt8) => c.toNat - 48) := by
  have h' : ¬ large c ≠ 83 := fun z => z ((large_S c).mpr h)
  have e : (fun (c : UInt8) => decide (49 ≤ c.toNat) && decide (c.toNat ≤ 52)) = okd := rfl
  unfold readCode
  simp only [if_neg h', e, tw_all h1]
  have n6 : ¬ SERIES < r.length := by unfold SERIES; omega
  rw [if_neg n6, if_neg (by omega)]
theorem fault_ok {c : UInt8} {r : Bytes} (h : c.toNat = 83 ∨ c.toNat = 115) (h1 : ∀ (j : Nat) x, r[j]? = some x → okd x = true) (h6 : r.length ≤ 6) : faultOf (c :: r) = -1 := by
  unfold faultOf; rw [code_ok h h1 h6]
/-- what a code that is read is -/
theorem read_inv {b : Bytes} {s : Sheet} (h : readCode b = .ok s) : s = (b.drop 1).map (fun (c : UInt8) => c.toNat - 48) ∧ s.length ≤ 6 ∧ b.length = s.length + 1 ∧ (∀ c ∈ b.drop 1, 49 ≤ c.toNat ∧ c.toNat ≤ 52) ∧ ∀ d ∈ s, 1 ≤ d ∧ d ≤ 4 := by
  cases b with
  | nil => cases h
  | cons c r =>
    unfold readCode at h
    have e : (fun (c : UInt8) => decide (49 ≤ c.toNat) && decide (c.toNat ≤ 52)) = okd := rfl
    simp only [e] at h
    split at h
    · cases h
    · split at h
      · cases h
      · split at h
        · cases h
        · rename_i h1 h2 h3
          have le : (r.takeWhile okd).length ≤ r.length := by
            have := (List.takeWhile_sublist (l := r) okd).length_le
            exact this
          have eq : r.takeWhile okd = r := by
            have := (List.takeWhile_prefix (l := r) okd)
            exact this.eq_of_length (by omega)
          rw [eq] at h h2
          cases h
          have all : ∀ c ∈ r, 49 ≤ c.toNat ∧ c.toNat ≤ 52 := fun c hc => by
            rw [← eq] at hc
            have := tw_mem hc
            unfold okd at this
            rw [Bool.and_eq_true, decide_eq_true_eq, decide_eq_true_eq] at this
            exact this
          refine ⟨rfl, ?_, by simp, all, ?_⟩
          · rw [List.length_map]; unfold SERIES at h2; omega
          · intro d hd
            obtain ⟨c, hc, rfl⟩ := List.mem_map.mp hd
            have := all c hc
            omega
theorem fault_iff {b : Bytes} : (0 ≤ faultOf b ↔ ∃ p, readCode b = .error p) := by
  unfold faultOf
  cases readCode b with
  | error p => simp
  | ok s => simp
/-! lengths -/
theorem digits_len {n k : Nat} (hk : 0 < k) (h : n < 10 ^ k) : (digits n).length ≤ k := by
  unfold digits ascii
  rw [List.length_map]
  have e : (toString n).toList = Nat.toDigits 10 n := Nat.toList_repr
  rw [e]
  exact (Nat.length_toDigits_le_iff (by decide) hk).mpr h
theorem spaced_take {l : List Bytes} {i : Nat} {w : Bytes} (h : l[i]? = some w) : spaced (l.take (i + 1)) = if i = 0 then w else spaced (l.take i) ++ (32 :: w) := by
  induction l generalizing i with
  | nil => simp at h
  | cons a r ih =>
    cases i with
    | zero => simp at h; subst h; simp [spaced]
    | succ i =>
      have h' : r[i]? = some w := by simpa using h
      rw [if_neg (by omega)]
      have e := ih h'
      cases i with
      | zero =>
        simp only [if_true] at e
        cases r with
        | nil => simp at h'
        | cons b s =>
          simp at h'; subst h'
          simp [spaced]
      | succ i =>
        rw [if_neg (by omega)] at e
        cases r with
        | nil => simp at h'
        | cons b s =>
          show spaced (a :: (b :: s).take (i + 1 + 1)) = spaced (a :: (b :: s).take (i + 1)) ++ _
          rw [List.take_succ_cons, List.take_succ_cons]
          show a ++ 32 :: spaced (b :: s.take (i + 1)) = (a ++ 32 :: spaced (b :: s.take i)) ++ _
          rw [List.take_succ_cons, List.take_succ_cons] at e
          rw [e]; simp
theorem spaced_len {l : List Bytes} {k : Nat} (h : ∀ w ∈ l, w.length ≤ k) : (spaced l).length ≤ (k + 1) * l.length := by
  induction l with
  | nil => simp [spaced]
  | cons a r ih =>
    have ha := h a (List.mem_cons_self ..)
    have := ih fun w hw => h w (List.mem_cons_of_mem _ hw)
    cases r with
    | nil => simp [spaced]; omega
    | cons b s =>
      show (a ++ 32 :: spaced (b :: s)).length ≤ _
      rw [List.length_append, List.length_cons, List.length_cons, Nat.mul_succ]
      omega
theorem commas_len {l : List Bytes} {k : Nat} (h : ∀ w ∈ l, w.length ≤ k) : (LsBook.commas l).length ≤ (k + 2) * l.length := by
  induction l with
  | nil => simp [LsBook.commas]
  | cons a r ih =>
    have ha := h a (List.mem_cons_self ..)
    have := ih fun w hw => h w (List.mem_cons_of_mem _ hw)
    cases r with
    | nil => simp [LsBook.commas]; omega
    | cons b s =>
      show (a ++ 44 :: 32 :: LsBook.commas (b :: s)).length ≤ _
      rw [List.length_append, List.length_cons, List.length_cons, List.length_cons, Nat.mul_succ]
      omega
theorem codeText_len (c : Sheet) : (codeText c).length = c.length + 1 := by unfold codeText; simp
end Tx
end
/-! ### WFe4 -/
section
set_option Elab.async false
set_option linter.all false
set_option maxRecDepth 100000
set_option maxHeartbeats 2000000
namespace Wk
open PySem PySem.Spec PyProof.Rows L2
open LsGeo (Pt)
open LsRefs (Sheet)
open LsText (Bytes)
/-! whole numbers, bytes, texts -/
def RI (n : Int) : RR := isV (.int n)
instance (n : Int) : Mono (RI n) := ⟨fun _ h => h⟩
instance (n : Int) : Stab (RI n) := ⟨fun _ h => h⟩
theorem ints_iff {H : Hp} {a : Addr} {ns : List Int} : LstAt RI H a ns ↔ H a = some (.lst (ns.map V.int)) := by
  constructor
  · rintro ⟨vs, h1, h2⟩
    rw [vals_map (g := V.int) h2] at h1; exact h1
  · intro h
    exact ⟨_, h, map_vals (g := V.int) (H := H) ns⟩
theorem ints_isL {v : V} {H : Hp} {ns : List Int} : isL (ns.map V.int) v H ↔ RLst RI ns v H := by
  constructor
  · rintro ⟨a, rfl, h⟩; exact ⟨a, rfl, ints_iff.mpr h⟩
  · rintro ⟨a, rfl, h⟩; exact ⟨a, rfl, ints_iff.mp h⟩
theorem nb_app (a b : Bytes) : nb (a ++ b) = nb a ++ nb b := List.map_append
theorem nb_len (a : Bytes) : (nb a).length = a.length := List.length_map _
theorem nb_get {b : Bytes} {i : Nat} {c : UInt8} (h : b[i]? = some c) : ((nb b).map V.int)[i]? = some (.int (c.toNat : Nat)) := by
  unfold nb
  rw [List.getElem?_map, List.getElem?_map, h]; rfl
def ny (b : Bytes) : Str := SX.S (b.map UInt8.toNat)
theorem ny_app (a b : Bytes) : ny a ++ ny b = ny (a ++ b) := by
  unfold ny; rw [SX.S_cat, List.map_append]
theorem ny_len (a : Bytes) : (ny a).length = a.length := by unfold ny; rw [SX.S_len, List.length_map]
theorem ascii_ny {s : String} (h : ∀ c ∈ s.toList, c.toNat < 256) : (Str.ofString s) = ny (LsText.ascii s) := by
  rw [Str.ofString_eq_toList]
  unfold ny LsText.ascii SX.S
  rw [List.map_map]
  congr 2
  refine List.map_congr_left fun c hc => ?_
  have := h c hc
  show c.toNat = (UInt8.ofNat c.toNat).toNat
  rw [UInt8.toNat_ofNat']; omega
theorem digits_ny (n : Nat) : (Str.ofString (toString (n : Int))) = ny (LsText.digits n) := by
  have e : toString (n : Int) = toString n := rfl
  rw [e]
  refine ascii_ny fun c hc => ?_
  have e2 : (toString n).toList = Nat.toDigits 10 n := Nat.toList_repr
  rw [e2] at hc
  have := Nat.isDigit_of_mem_toDigits (by decide) (by decide) hc
  unfold Char.isDigit at this
  rw [Bool.and_eq_true, decide_eq_true_eq, decide_eq_true_eq] at this
  have h2 := this.2
  have : c.val.toNat ≤ 57 := UInt32.le_iff_toNat_le.mp h2
  show c.val.toNat < 256
  omega
section
variable {K : PySem.W.Frag} {σ : L2.St} {H B : Hp} {ta tb te : TE}
/-- a formatted text, piece by piece -/
def EvJ (ts : List TE) (acc : Bytes) (σ : L2.St) (H : Hp) (b : Bytes) : Prop := ∀ H1, Same H H1 → ∀ Q : Str → Hp → Prop, (∀ H2, Same H1 H2 → Q (ny b) H2) → tJs ts (ny acc) σ H1 Q
theorem j_nil {acc : Bytes} : EvJ [] acc σ H acc := fun H1 e Q q => q H1 (Same.refl _)
theorem j_cons {ts : List TE} {acc y b : Bytes} (h : EvP te σ H (isV (.str (ny y)))) (hl : acc.length + y.length ≤ 1000000) (hr : EvJ ts (acc ++ y) σ H b) : EvJ (te :: ts) acc σ H b := fun H1 e Q q =>
  h H1 e _ fun v H2 e2 hv => by
    cases hv
    refine ⟨ny y, rfl, ?_, ?_⟩
    · rw [ny_app, ny_len, List.length_append]; exact sz_ok hl
    · rw [ny_app]; exact hr H2 (e.trans e2) Q fun H3 e3 => q H3 (e2.trans e3)
theorem e_js {ts : List TE} {b : Bytes} (h : EvJ ts [] σ H b) : EvP (fun σ H Q => tJs ts Str.empty σ H fun out H1 => Q (.str out) H1) σ H (isV (.str (ny b))) := fun H1 e Q q =>
  h H1 e _ fun H2 e2 => q _ H2 e2 rfl
theorem e_lit {s : String} {b : Bytes} (h : Str.ofString s = ny b) : EvP (tC (.str s)) σ H (isV (.str (ny b))) := ev_c.is (congrArg V.str h)
theorem e_fmtS {b : Bytes} (h : EvP te σ H (isV (.str (ny b)))) (hl : b.length ≤ 1000000) : EvP (tFmt te) σ H (isV (.str (ny b))) := fun H1 e Q q =>
  h H1 e _ fun v H2 e2 hv => .inl ⟨ny b, hv, by rw [ny_len]; exact sz_ok hl, q _ H2 e2 rfl⟩
theorem e_fmtN {n : Nat} (h : EvP te σ H (isV (.int n))) (hl : n < 2 ^ 64) : EvP (tFmt te) σ H (isV (.str (ny (LsText.digits n)))) := fun H1 e Q q =>
  h H1 e _ fun v H2 e2 hv => .inr ⟨(n : Int), hv, by
    rw [Int.natAbs_natCast]
    by_cases z : n = 0
    · subst z; decide
    · have : n.log2 < 64 := (Nat.log2_lt z).mpr hl
      omega, q _ H2 e2 (congrArg V.str (digits_ny n))⟩
theorem e_sl1 {a : Addr} {xs : List V} (ha : EvP te σ H (isV (.ref a))) (h : H a = some (.lst xs)) : EvP (tSl (rSlL K) te (tPart (tC (.int 1))) tNoPart) σ H (isL (xs.drop 1)) := fun H1 e Q q =>
  ha H1 e _ fun v H2 e2 hv => by
    cases hv
    refine ⟨1, rfl, a, xs, rfl, SqL.of ((e.trans e2) _ _ h), fun b hb => q _ _ (e2.trans (Same.new hb)) ⟨b, rfl, ?_⟩⟩
    rw [upd_same]
    have z : cutV xs (some 1) none = xs.drop 1 := by
      unfold cutV
      rw [HT.sIx_none, show (some (1 : Int)) = some ((1 : Nat) : Int) from rfl, HT.sIx_nat]
      cases xs with
      | nil => simp
      | cons x r =>
        have z1 : min 1 (x :: r).length = 1 := by simp
        rw [z1]; simp
    rw [z]
theorem e_sl2 {a : Addr} {xs : List V} {i j : Nat} {ti tj : TE} (ha : EvP te σ H (isV (.ref a))) (hi : EvP ti σ H (isV (.int i))) (hj : EvP tj σ H (isV (.int j))) (h : H a = some (.lst xs)) (h1 : i ≤ j) (h2 : j ≤ xs.length) : EvP (tSl (rSlL K) te (tPart ti) (tPart tj)) σ H (isL ((xs.drop i).take (j - i))) := fun H1 e Q q =>
  ha H1 e _ fun v H2 e2 hv => hi H2 (e.trans e2) _ fun v2 H3 e3 hv2 => by
    cases hv2
    refine ⟨(i : Int), rfl, hj H3 ((e.trans e2).trans e3) _ fun v3 H4 e4 hv3 => ?_⟩
    cases hv3
    cases hv
    refine ⟨(j : Int), rfl, a, xs, rfl, SqL.of ((((e.trans e2).trans e3).trans e4) _ _ h), fun b hb => q _ _ (((e2.trans e3).trans e4).trans (Same.new hb)) ⟨b, rfl, ?_⟩⟩
    rw [upd_same]
    have z : cutV xs (some (i : Int)) (some (j : Int)) = (xs.drop i).take (j - i) := by
      unfold cutV
      rw [HT.sIx_nat, HT.sIx_nat, Nat.min_eq_left h2, Nat.min_eq_left (Nat.le_trans h1 h2)]
    rw [z]
/-- a new list: its place is new -/
def isF (B : Hp) (xs : List V) : RR := fun v H => ∃ p, v = .ref p ∧ H p = some (.lst xs) ∧ B p = none
theorem e_lstF {ta : TA} {vs : List V} (h : EvA ta σ H (isA vs)) (hl : vs.length ≤ 1000000) : EvP (tLst ta) σ H (isF H vs) := fun H1 e _ q =>
  h H1 e _ fun us H2 e2 hu => by
    cases hu
    exact ⟨sz_ok hl, fun p hp => q _ _ (e2.trans (Same.new hp)) ⟨p, rfl, upd_same, (e.trans e2).free hp⟩⟩
theorem e_catF {xs ys : List V} {ra : RR} [Mono ra] (ha : EvP ta σ H ra) (h1 : ∀ v H1, ra v H1 → isL xs v H1) (hb : ∀ H1, Same H H1 → EvP tb σ H1 (isL ys)) (hz : xs.length + ys.length ≤ 10000000) : EvP (tOp rCat ta tb) σ H (isF H (xs ++ ys)) :=
  ev_opG ha hb fun x y H1 s g1 g2 H2 s2 Q q => by
    obtain ⟨a, rfl, f1⟩ := h1 _ _ g1
    obtain ⟨b, rfl, f2⟩ := g2
    exact ⟨a, b, xs, ys, rfl, rfl, s2 _ _ f1, s2 _ _ f2, Nat.le_trans hz (by decide), fun p hp => q _ _ (Same.new hp) ⟨p, rfl, upd_same, (s.trans s2).free hp⟩⟩
/-- tuple(list) -/
theorem e_tupOf {xs : List V} (h : EvP te σ H (isL xs)) : EvP (tCB (fun xs H Q => ∃ p ys, xs = [V.ref p] ∧ ((SqL K H p ys ∧ ∀ l, H l = none → Q (V.ref l) (upd H l (.tup ys))) ∨ (SqT K H p ys ∧ Q (V.ref p) H))) (tCons te tNil)) σ H (isT xs) :=
  e_cb (ea_consG (R := isL xs) h fun _ _ => ea_nil) fun vs H1 e hv Q q => by
    obtain ⟨v, r, rfl, ⟨a, rfl, ha⟩, hr⟩ := hv
    cases hr
    exact ⟨a, xs, rfl, .inl ⟨SqL.of ha, fun l hl => q _ _ (Same.new hl) ⟨l, rfl, upd_same⟩⟩⟩
/-- x in a new tuple -/
theorem e_inT {neg : Bool} {xs : List V} {x : V} {b : Bool} (ha : EvP ta σ H (isV x)) (hb : EvP tb σ H (isT xs)) (hx : flatV x = true) (hf : xs.all flatV = true) (e : (if neg then !inV x xs else inV x xs) = b) : EvP (tOp (rIn K neg) ta tb) σ H (isV (.bl b)) := fun H1 e1 Q q =>
  ha H1 e1 _ fun v H2 e2 hv => hb H2 (e1.trans e2) _ fun w H3 e3 hw => by
    cases hv
    obtain ⟨p, rfl, hp⟩ := hw
    exact ⟨p, xs, rfl, .inr (SqT.of hp), hx, hf, q _ _ (e2.trans e3) (by subst e; rfl)⟩
theorem in_twoI (d a b : Nat) : inV (.int (d : Int)) [.int (a : Int), .int (b : Int)] = decide (d = a ∨ d = b) := in_two d a b
theorem e_un {g : Int → V} {i : Int} (h : EvP te σ H (isV (.int i))) : EvP (tUn (rU g) te) σ H (isV (g i)) := fun H1 e Q q => h H1 e _ fun v H2 e2 hv => ⟨i, hv, q _ H2 e2 rfl⟩
theorem e_lenI {a : Addr} {ns : List Int} (ha : EvP ta σ H (isV (.ref a))) (h : H a = some (.lst (ns.map V.int))) : EvP (tCB (fun xs H Q => ∃ p ys, xs = [.ref p] ∧ (SqL K H p ys ∨ SqT K H p ys) ∧ Q (.int ys.length) H) (tCons ta tNil)) σ H (isV (.int ns.length)) :=
  (e_lenS ha h).is (by rw [List.length_map])
end
section
variable {P : Program} {w : World} {K : PySem.W.Frag} {mg : Str → Option Value} {base : Heap} {A : Ad} {σ : L2.St} {H B : Hp} {ta tb te : TE} {R : RR}
def sp_is_day (K : PySem.W.Frag) (A : Ad) : Sp := pure fun vs H R => ∃ d : Int, vs = [.int d] ∧ R = isV (.bl (decide (d ≤ 99999)))
def sp_is_number (K : PySem.W.Frag) (A : Ad) : Sp := pure fun vs H R => ∃ d : Int, vs = [.int d] ∧ R = isV (.bl (decide (1 ≤ d) && decide (d ≤ 9999)))
theorem ok_is_day (T : Txt K mg A)  {f : Addr} {fd : FuncData} (F : C8.Def K mg "is_day" s_is_day f fd) (bb : Binds K fd ["day"] []) : C8.Cal P w K mg base 1 "is_day" (sp_is_day K A) [] := by
  refine C8.cal0 F bb .nil sc_is_day (fun vs H Q E h => ?_) (fun cdv Ar outer s H vs Q E hr h => ?_)
  · obtain ⟨R, ⟨d, rfl, _⟩, _⟩ := h
    rfl
  · obtain ⟨R, ⟨d, rfl, rfl⟩, k⟩ := h
    exact ⟨_, (pss_one (ps_ret (pe_cmpR op_le (pv 0) (C8.pe_gc rfl T.g_LAST_DAY) (nomark _)))), body (s_ret (Same.refl _) (e_le (ev_var rfl) ev_c)) k⟩
theorem ok_is_number (T : Txt K mg A)  {f : Addr} {fd : FuncData} (F : C8.Def K mg "is_number" s_is_number f fd) (bb : Binds K fd ["number"] []) : C8.Cal P w K mg base 1 "is_number" (sp_is_number K A) [] := by
  refine C8.cal0 F bb .nil sc_is_number (fun vs H Q E h => ?_) (fun cdv Ar outer s H vs Q E hr h => ?_)
  · obtain ⟨R, ⟨d, rfl, _⟩, _⟩ := h
    rfl
  · obtain ⟨R, ⟨d, rfl, rfl⟩, k⟩ := h
    exact ⟨_, (pss_one (ps_ret (pe_chain op_le op_le pe_int (pv 0) (C8.pe_gc rfl T.g_LAST_NUMBER)))), body (s_ret (Same.refl _) (e_chainLe ev_c (ev_var rfl) ev_c)) k⟩
def alikeP (f g : LsLand.Feature) : Bool := decide (f.cls = g.cls ∧ f.name = g.name ∧ f.shape = g.shape)
theorem nb_inj {a b : Bytes} (h : nb a = nb b) : a = b := by
  refine List.map_inj_right (f := fun c : UInt8 => (c.toNat : Int)) (fun x y h => ?_) |>.mp h
  exact UInt8.toNat_inj.mp (by omega)
theorem shape_eq {s t : LsGeo.Shape} (h1 : EditSpec.kindOf s = EditSpec.kindOf t) (h2 : s.places = t.places) : s = t := by
  cases s <;> cases t <;> simp_all [EditSpec.kindOf, LsGeo.Shape.places]
def sp_alike (K : PySem.W.Frag) (A : Ad) : Sp := pure fun vs H R => ∃ a b f g, vs = [.ref a, .ref b] ∧ FtAt A H a f ∧ FtAt A H b g ∧ R = isV (.bl (alikeP f g))
theorem e_eqR {x y : RR} {d e : PyData} {b : Bool} [Mono x] (ha : EvP ta σ H x) (hb : EvP tb σ H y) (h1 : ∀ v H1, Same H H1 → x v H1 → Dp K H1 v d) (h2 : ∀ v H1, Same H H1 → y v H1 → Dp K H1 v e) (mn : ∀ v H1 H2, Same H1 H2 → x v H1 → x v H2) (mn2 : ∀ v H1 H2, Same H1 H2 → y v H1 → y v H2) (s1 : SeqAt.shaped d = true) (s2 : SeqAt.shaped e = true) (hb2 : PyData.eqv d e = b) : EvP (tOp (rEqD K) ta tb) σ H (isV (.bl b)) :=
  ev_opG ha (fun H1 s => hb.mono s) fun v u H1 s hx hy => rv_eqD (fun H2 s2 => h1 v H2 (s.trans s2) (mn v _ _ s2 hx)) (fun H2 s2 => h2 u H2 (s.trans s2) (mn2 u _ _ s2 hy)) s1 s2 hb2
theorem e_neR {x y : RR} {d e : PyData} {b : Bool} [Mono x] (ha : EvP ta σ H x) (hb : EvP tb σ H y) (h1 : ∀ v H1, Same H H1 → x v H1 → Dp K H1 v d) (h2 : ∀ v H1, Same H H1 → y v H1 → Dp K H1 v e) (mn : ∀ v H1 H2, Same H1 H2 → x v H1 → x v H2) (mn2 : ∀ v H1 H2, Same H1 H2 → y v H1 → y v H2) (s1 : SeqAt.shaped d = true) (s2 : SeqAt.shaped e = true) (hb2 : (!PyData.eqv d e) = b) : EvP (tOp (rNeD K) ta tb) σ H (isV (.bl b)) :=
  ev_opG ha (fun H1 s => hb.mono s) fun v u H1 s hx hy => rv_neD (fun H2 s2 => h1 v H2 (s.trans s2) (mn v _ _ s2 hx)) (fun H2 s2 => h2 u H2 (s.trans s2) (mn2 u _ _ s2 hy)) s1 s2 hb2
theorem ok_alike (T : Txt K mg A)  {f : Addr} {fd : FuncData} (F : C8.Def K mg "alike" s_alike f fd) (bb : Binds K fd ["one", "other"] []) : C8.Cal P w K mg base 1 "alike" (sp_alike K A) [] := by
  refine C8.cal0 F bb .nil sc_alike (fun vs H Q E h => ?_) (fun cdv Ar outer s H vs Q E hr h => ?_)
  · obtain ⟨R, ⟨a, b, f, g, rfl, _⟩, _⟩ := h
    rfl
  · obtain ⟨R, ⟨a, b, f, g, rfl, hf, hg, rfl⟩, k⟩ := h
    have dn : ∀ (n : Bytes) v H1, isL ((nb n).map V.int) v H1 → Dp K H1 v (dInts (nb n)) := fun n v H1 h => by obtain ⟨x, rfl, hx⟩ := h; exact dp_ints hx
    have dq : ∀ (n : List Pt) v H1, RLst RPt n v H1 → Dp K H1 v (dPts n) := fun n v H1 h => by obtain ⟨x, rfl, hx⟩ := h; exact dp_pts hx
    refine ⟨_, (pss_cons (ps_if (PW.pt (pw_or (pt_cmpR op_ne (pe_fld (pv 0) rfl) (pe_fld (pv 1) rfl) (nomark _)) (pw_or1 (pt_cmpR (op_neD hr.units) (pe_fld (pv 0) rfl) (pe_fld (pv 1) rfl) (nomark _))))) (pss_one (ps_ret pe_bl)) pss_nil) (pss_one (ps_ret (pe_and (pe_cmpR op_eq (pe_fld (pv 0) rfl) (pe_fld (pv 1) rfl) (nomark _)) (pe_one (pe_cmpR (op_eqD hr.units) (pe_fld (pv 0) rfl) (pe_fld (pv 1) rfl) (nomark _))))))), body (s_when (b := (!decide ((f.cls : Int) = g.cls)) || !decide (nb f.name = nb g.name)) (et_or (et_test (e_ne (e_group T (ev_var rfl) hf) (e_group T (ev_var rfl) hg))) fun _ => et_test (e_neR (e_name T (ev_var rfl) hf) (e_name T (ev_var rfl) hg) (fun v H1 _ => dn f.name v H1) (fun v H1 _ => dn g.name v H1) (fun v _ _ s h => Mono.mono s h) (fun v _ _ s h => Mono.mono s h) (shaped_ints _) (shaped_ints _) (by rw [eqv_list]))) (fun c => s_ret (Same.refl _) (ev_c.is ?_)) fun c => s_ret (Same.refl _) ((e_andV (e_eq (e_kind T (ev_var rfl) hf) (e_kind T (ev_var rfl) hg)) fun _ => e_eqR (e_places T (ev_var rfl) hf) (e_places T (ev_var rfl) hg) (fun v H1 _ => dq f.shape.places v H1) (fun v H1 _ => dq g.shape.places v H1) (fun v _ _ s h => Mono.mono s h) (fun v _ _ s h => Mono.mono s h) (shaped_pts _) (shaped_pts _) (eqv_pts _ _)).is ?_)) k⟩
    · refine congrArg V.bl ?_
      symm
      unfold alikeP
      rw [decide_eq_false_iff_not]
      rintro ⟨h1, h2, _⟩
      rw [h1, h2] at c
      simp at c
    · refine congrArg V.bl ?_
      rw [Bool.or_eq_false_iff, Bool.not_eq_false', Bool.not_eq_false', decide_eq_true_eq, decide_eq_true_eq] at c
      have c1 : f.cls = g.cls := by omega
      have c2 := nb_inj c.2
      unfold alikeP
      rw [Bool.eq_iff_iff, Bool.and_eq_true, decide_eq_true_eq, decide_eq_true_eq, decide_eq_true_eq]
      constructor
      · rintro ⟨z1, z2⟩
        exact ⟨c1, c2, shape_eq (by omega) z2⟩
      · rintro ⟨_, _, z⟩
        rw [z]; exact ⟨rfl, rfl⟩
def sp_code_fault (K : PySem.W.Frag) (A : Ad) : Sp := pure fun vs H R => ∃ a b, vs = [.ref a] ∧ H a = some (.lst ((nb b).map V.int)) ∧ b.length ≤ 100 ∧ R = isV (.int (Tx.faultOf b))
def noS : Bytes → Bool
  | [] => false
  | c :: _ => !decide (c.toNat = 83 ∨ c.toNat = 115)
theorem ok_code_fault (T : Txt K mg A)  {f : Addr} {fd : FuncData} (F : C8.Def K mg "code_fault" s_code_fault f fd) (bb : Binds K fd ["code"] []) : C8.Cal P w K mg base 1 "code_fault" (sp_code_fault K A) [] := by
  refine C8.cal0 F bb .nil sc_code_fault (fun vs H Q E h => ?_) (fun cdv Ar outer s H vs Q E hr h => ?_)
  · obtain ⟨R, ⟨a, b, rfl, _⟩, _⟩ := h
    rfl
  · obtain ⟨R, ⟨a, b, rfl, hA, hl, rfl⟩, k⟩ := h
    have ln : ((nb b).length : Int) = b.length := by rw [nb_len]
    refine ⟨_, (pss_cons (ps_if (PW.pt (pw_or (pt_cmpR op_eq (pe_callB call_len_seq (by rfl) T.len (by decide +kernel) (pa_cons (pv 0) pa_nil)) pe_int (nomark _)) (pw_or1 (pt_cmpR op_notIn_seq (pe_ix ix_list (pv 0) pe_int (fun _ _ => rfl)) (pe_tup (pa_cons (C8.pe_gc rfl T.g_GREAT_S) (pa_cons (C8.pe_gc rfl T.g_SMALL_S) pa_nil))) (by rfl))))) (pss_one (ps_ret pe_int)) pss_nil) (pss_cons (ps_for PassesOwn.never rfl (pi_range2 rfl T.range (pa_cons pe_int (pa_cons (pe_callB call_len_seq (by rfl) T.len (by decide +kernel) (pa_cons (pv 0) pa_nil)) pa_nil))) (pg_name (i := 1) sc_code_fault.nd rfl (Or.inl rfl)) (pss_one (ps_if (PW.pt (pw_or (pt_cmpR op_gt (pv 1) (C8.pe_gc rfl T.g_LAST_SERIES) (nomark _)) (pw_or1 (pt_not (pt_chain op_le op_le (C8.pe_gc rfl T.g_DIGIT_ONE) (pe_ix ix_list (pv 0) (pv 1) (fun _ _ => rfl)) (C8.pe_gc rfl T.g_DIGIT_FOUR)))))) (pss_one (ps_ret (pv 1))) pss_nil))) (pss_one (ps_ret (pe_un un_neg pe_int))))), body (s_when (b := decide (((nb b).length : Int) = 0) || noS b) (et_or (et_test (e_eq (e_lenI (ev_var rfl) hA) ev_c)) fun c => ?_) (fun c => s_ret (Same.refl _) (ev_c.is ?_)) fun c => ?_) k⟩
    · cases b with
      | nil => simp [nb] at c
      | cons x r =>
        exact et_test (e_inT (neg := true) (x := .int (x.toNat : Nat)) (xs := [.int (83 : Nat), .int (115 : Nat)]) (e_ixL (ev_var rfl) ev_c hA at0) (e_tup (ea_cons ev_c (ea_cons ev_c ea_nil)) (by show 2 ≤ 1000000; decide)) rfl rfl (by simp only [if_true]; rw [in_twoI]; rfl))
    · refine congrArg V.int ?_
      cases b with
      | nil => rfl
      | cons x r =>
        rw [Bool.or_eq_true, decide_eq_true_eq] at c
        rcases c with c | c
        · simp [nb] at c; omega
        · refine (Tx.fault_first ?_).symm
          simpa [noS] using c
    · cases b with
      | nil => simp [nb] at c
      | cons x r =>
        rw [Bool.or_eq_false_iff] at c
        have hS : x.toNat = 83 ∨ x.toNat = 115 := by have c2 := c.2; simp [noS] at c2; omega
        refine s_seq (M := fun σ' _ => (∀ (j : Nat) y, r[j]? = some y → Tx.okd y = true) ∧ r.length ≤ 6) (s_forQR2 (n0 := r.length) (Same.refl _) (ea_cons ev_c (ea_cons (e_lenI (ev_var rfl) hA) ea_nil)) (by rw [nb_len, List.length_cons]; omega) (by rw [nb_len]; omega)
          (fun i σ' => (∃ v1, σ' = [some (.ref a), v1]) ∧ (∀ j, j < i → ∀ y, r[j]? = some y → Tx.okd y = true) ∧ i ≤ 6) ⟨⟨_, rfl⟩, fun j h => by omega, by omega⟩ (fun i σ' H' hi s p => ?_) fun σ' H' s p => ⟨fun j y hy => p.2.1 j (List.getElem?_eq_some_iff.mp hy).1 y hy, p.2.2⟩) fun σ' H2 s2 hM => s_ret s2 ((e_un (g := fun i => V.int (-i)) (i := 1) ev_c).is ?_)
        · obtain ⟨⟨v1, rfl⟩, hp, h6⟩ := p
          have z : (1 : Int) + (i : Int) = ((i + 1 : Nat) : Int) := by omega
          rw [z]
          have gi := List.getElem?_eq_getElem hi
          have gx : ((nb (x :: r)).map V.int)[i + 1]? = some (.int (r[i].toNat : Nat)) := nb_get (by rw [List.getElem?_cons_succ]; exact gi)
          refine s_if (b := decide ((6 : Int) < ((i + 1 : Nat) : Int)) || !(decide ((49 : Int) ≤ (r[i].toNat : Nat)) && decide (((r[i].toNat : Nat) : Int) ≤ 52))) (et_or (et_test (e_gt (ev_var rfl) ev_c)) fun _ => et_not (et_test (e_chainLe ev_c (e_ixL (ev_var rfl) (ev_var rfl) (s _ _ hA) (atI_nat gx)) ev_c))) (fun c1 => s_ret (Same.refl _) ((ev_var rfl).is ?_)) fun c1 => s_nx fun H4 e => ⟨e, ⟨_, rfl⟩, fun j hj y hy => ?_, ?_⟩
          · refine congrArg V.int ?_
            refine (Tx.fault_at hS hi hp h6 ?_).symm
            rw [Bool.or_eq_true, decide_eq_true_eq] at c1
            rcases c1 with c1 | c1
            · left; omega
            · right
              intro y hy
              rw [gi] at hy; cases hy
              unfold Tx.okd
              simp only [Bool.not_eq_true', Bool.and_eq_false_iff, decide_eq_false_iff_not] at c1 ⊢
              omega
          · rw [Bool.or_eq_false_iff, decide_eq_false_iff_not] at c1
            by_cases q : j = i
            · subst q
              rw [gi] at hy; cases hy
              have c2 := c1.2
              unfold Tx.okd
              simp only [Bool.not_eq_false', Bool.and_eq_true, decide_eq_true_eq] at c2 ⊢
              omega
            · exact hp j (by omega) y hy
          · rw [Bool.or_eq_false_iff, decide_eq_false_iff_not] at c1
            omega
        · exact congrArg V.int (Tx.fault_ok hS hM.1 hM.2).symm
def sp_sheet_of (K : PySem.W.Frag) (A : Ad) : Sp := pure fun vs H R => ∃ a b s, vs = [.ref a] ∧ H a = some (.lst ((nb b).map V.int)) ∧ b.length ≤ 100 ∧ LsRefs.readCode b = .ok s ∧ R = RSh s
theorem ok_sheet_of (T : Txt K mg A)  {f : Addr} {fd : FuncData} (F : C8.Def K mg "sheet_of" s_sheet_of f fd) (bb : Binds K fd ["code"] []) : C8.Cal P w K mg base 1 "sheet_of" (sp_sheet_of K A) [] := by
  refine C8.cal0 F bb .nil sc_sheet_of (fun vs H Q E h => ?_) (fun cdv Ar outer s H vs Q E hr h => ?_)
  · obtain ⟨R, ⟨a, b, s, rfl, _⟩, _⟩ := h
    rfl
  · obtain ⟨R, ⟨a, b, s, rfl, hA, hl, hs, rfl⟩, k⟩ := h
    obtain ⟨e1, e2, e3, e4, e5⟩ := Tx.read_inv hs
    refine ⟨_, (pss_one (ps_ret (pe_callTy call_tuple_of (by rfl) T.tuple (by decide +kernel) (pa_cons (pe_lc (own := [("byte", 1)]) (tt := tYes) rfl sc_sheet_of.nd (pi_list (pe_slice sl_list (pv 0) (po_some pe_int) po_none)) (blkOk_by (own := [("byte", 1)]) (N := N_sheet_of) (sc := C8.fnScope s_sheet_of) (by decide +kernel)) (fun _ _ _ _ _ => (pg_name (i := 1) sc_sheet_of.nd rfl (Or.inl rfl))) (fun _ _ _ _ _ => pts_nil) (fun _ _ _ _ _ => (pe_op op_sub (pv 1) (C8.pe_gc rfl T.g_DIGIT_ZERO)))) pa_nil)))), body (s_ret (Same.refl _) (e_imp0 (e_tupOf (xs := s.map fun (d : Nat) => V.int d) ?_) fun v H1 h => h)) k⟩
    refine (e_lcFN (F := RI) (G := fun x => RI (x - 48)) (L := nb (b.drop 1)) (fun _ => true) ((e_sl1 (ev_var rfl) hA).imp fun v H1 _ h => ?_) (by rw [nb_len, List.length_drop]; omega) (fun _ => rfl) (fun _ _ _ _ _ _ => et_yes) fun x v H' hx hm s _ => ?_).imp fun v H1 _ h => ?_
    · refine ints_isL.mp ?_
      unfold nb at h ⊢
      rw [List.map_drop, List.map_drop]; exact h
    · cases hx
      exact e_sub (ev_var rfl) ev_c
    · rw [filter_true] at h
      obtain ⟨c, rfl, us, g1, g2⟩ := h
      refine ⟨c, rfl, ?_⟩
      rw [vals_map (g := fun x : Int => V.int (x - 48)) g2] at g1
      rw [g1, e1]
      refine congrArg (fun z => some (HO.lst z)) ?_
      unfold nb
      rw [List.map_map, List.map_map]
      refine List.map_congr_left fun y hy => ?_
      have := e4 y hy
      show V.int ((y.toNat : Int) - 48) = V.int ((y.toNat - 48 : Nat) : Int)
      refine congrArg V.int ?_
      omega
def okSh (c : Sheet) : Prop := c.length ≤ 6 ∧ ∀ d ∈ c, 1 ≤ d ∧ d ≤ 4
theorem nb_code {c : Sheet} (h : okSh c) : nb (LsRefs.codeText c) = 83 :: c.map fun (d : Nat) => ((48 + d : Nat) : Int) := by
  unfold nb LsRefs.codeText
  rw [List.map_cons, List.map_map]
  refine congrArg (List.cons (83 : Int)) ?_
  refine List.map_congr_left fun d hd => ?_
  have := h.2 d hd
  show (((UInt8.ofNat (48 + d)).toNat : Nat) : Int) = _
  rw [UInt8.toNat_ofNat']
  omega
def sp_code_bytes (K : PySem.W.Frag) (A : Ad) : Sp := pure fun vs H R => ∃ a c, vs = [.ref a] ∧ ShAt H a c ∧ okSh c ∧ R = RLst RI (nb (LsRefs.codeText c))
theorem ok_code_bytes (T : Txt K mg A)  {f : Addr} {fd : FuncData} (F : C8.Def K mg "code_bytes" s_code_bytes f fd) (bb : Binds K fd ["sheet"] []) : C8.Cal P w K mg base 1 "code_bytes" (sp_code_bytes K A) [] := by
  refine C8.cal0 F bb .nil sc_code_bytes (fun vs H Q E h => ?_) (fun cdv Ar outer s H vs Q E hr h => ?_)
  · obtain ⟨R, ⟨a, c, rfl, _⟩, _⟩ := h
    rfl
  · obtain ⟨R, ⟨a, c, rfl, hA, hc, rfl⟩, k⟩ := h
    have c6 := hc.1
    rw [nb_code hc] at k
    refine ⟨_, (pss_one (ps_ret (pe_op op_cat (pe_lst (pa_cons (C8.pe_gc rfl T.g_GREAT_S) pa_nil)) (pe_lc (own := [("quarter", 1)]) (tt := tYes) rfl sc_code_bytes.nd (pi_tup (pv 0)) (blkOk_by (own := [("quarter", 1)]) (N := N_code_bytes) (sc := C8.fnScope s_code_bytes) (by decide +kernel)) (fun _ _ _ _ _ => (pg_name (i := 1) sc_code_bytes.nd rfl (Or.inl rfl))) (fun _ _ _ _ _ => pts_nil) (fun _ _ _ _ _ => (pe_op op_add (C8.pe_gc rfl T.g_DIGIT_ZERO) (pv 1))))))), body (s_ret (Same.refl _) (e_cat (xs := [83]) (e_lst1 ev_c) (fun H1 s => ?_) (by rw [List.length_map]; simp; omega))) k⟩
    refine (e_lcT (xs := c.map fun (d : Nat) => V.int d) (fun _ => true) (fun i => Ro RI ((c.map fun (d : Nat) => ((48 + d : Nat) : Int))[i]?)) (ev_var rfl) (SqT.of (s _ _ hA)) (by rw [List.length_map]; omega) (fun _ => rfl) (fun _ _ _ _ _ => et_yes) fun i x H' hx s2 _ => ?_).imp fun v H2 _ r => rlst_all (by rw [List.length_map, List.length_map]) r
    rw [List.getElem?_map] at hx
    obtain ⟨d, hd, rfl⟩ := Option.map_eq_some_iff.mp hx
    rw [List.getElem?_map, hd]
    refine (e_add ev_c (ev_var rfl)).is ?_
    show V.int ((48 : Int) + (d : Int)) = V.int ((48 + d : Nat) : Int)
    refine congrArg V.int ?_
    omega
def sp_codes_told (K : PySem.W.Frag) (A : Ad) : Sp := pure fun vs H R => ∃ a L, vs = [.ref a] ∧ LstAt RSh H a L ∧ L.length ≤ 1000 ∧ (∀ c ∈ L, okSh c) ∧ R = RLst RI ((L.length : Int) :: nb (LsText.spaced (L.map LsRefs.codeText)))
theorem ok_codes_told (T : Txt K mg A) (c_code_bytes : C8.Cal P w K mg base 1 "code_bytes" (sp_code_bytes K A) []) {f : Addr} {fd : FuncData} (F : C8.Def K mg "codes_told" s_codes_told f fd) (bb : Binds K fd ["sheets"] []) : C8.Cal P w K mg base 2 "codes_told" (sp_codes_told K A) [] := by
  refine C8.cal0 F bb .nil sc_codes_told (fun vs H Q E h => ?_) (fun cdv Ar outer s H vs Q E hr h => ?_)
  · obtain ⟨R, ⟨a, L, rfl, _⟩, _⟩ := h
    rfl
  · obtain ⟨R, ⟨a, L, rfl, hA, hl, hc, rfl⟩, k⟩ := h
    obtain ⟨vs, h1, h2⟩ := id hA
    have hlen := h2.len
    have k7 : ∀ w ∈ L.map LsRefs.codeText, w.length ≤ 7 := fun w hw => by
      obtain ⟨c, hm, rfl⟩ := List.mem_map.mp hw
      rw [Tx.codeText_len]
      have := (hc c hm).1
      omega
    refine ⟨_, (pss_cons (ps_set (i := 1) sc_codes_told.nd rfl (Or.inl rfl) (pe_lst (pa_cons (pe_callB call_len_seq (by rfl) T.len (by decide +kernel) (pa_cons (pv 0) pa_nil)) pa_nil))) (pss_cons (ps_for PassesOwn.never rfl (pi_range1 rfl T.range (pa_cons (pe_callB call_len_seq (by rfl) T.len (by decide +kernel) (pa_cons (pv 0) pa_nil)) pa_nil)) (pg_name (i := 2) sc_codes_told.nd rfl (Or.inl rfl)) (pss_cons (ps_if (pt_cmpR op_gt (pv 2) pe_int (nomark _)) (pss_one (ps_expr (pe_bm PySem.F.plainAttrs_list PySem.F.slot_list_append PySem.F.type_list_append mt_append (pv 1) (pa_cons (C8.pe_gc rfl T.g_BLANK_sheets) pa_nil)))) pss_nil) (pss_one (ps_expr (pe_bm PySem.F.plainAttrs_list PySem.F.slot_list_extend PySem.F.type_list_extend mt_extend (pv 1) (pa_cons (C8.pe_c c_code_bytes hr (by decide) rfl (pa_cons (pe_ix ix_list (pv 0) (pv 2) (fun _ _ => rfl)) pa_nil)) pa_nil)))))) (pss_one (ps_ret (pv 1))))), body (s_set (e_lstF (ea_cons ((e_lenS (ev_var rfl) h1).is (by rw [hlen])) ea_nil) (by show 1 ≤ 1000000; decide)) fun v H1 s1 hv => ?_) k⟩
    obtain ⟨p, rfl, hp, hfr⟩ := hv
    refine s_seq (M := fun σ' H' => ∃ v2, σ' = [some (.ref a), some (.ref p), v2] ∧ H' p = some (.lst (((L.length : Int) :: nb (LsText.spaced (L.map LsRefs.codeText))).map V.int))) (s_forR (n0 := L.length) s1 (ea_cons ((e_lenS (ev_var rfl) (s1 _ _ h1)).is (by rw [hlen])) ea_nil) (by omega) (by omega)
      (fun i σ' H' => ∃ v2, σ' = [some (.ref a), some (.ref p), v2] ∧ H' p = some (.lst (((L.length : Int) :: nb (LsText.spaced ((L.map LsRefs.codeText).take i))).map V.int))) (fun H2 e => ⟨_, rfl, e _ _ hp⟩) (fun i σ' H' hi sB q => ?_) fun σ' H' sB q => ?_) fun σ' H' s2 hM => ?_
    · obtain ⟨v2, rfl, hq⟩ := q
      have gi := List.getElem?_eq_getElem hi
      have gw : (L.map LsRefs.codeText)[i]? = some (LsRefs.codeText L[i]) := by rw [List.getElem?_map, gi]; rfl
      have tl : (LsText.spaced ((L.map LsRefs.codeText).take i)).length ≤ 8000 := by
        have := Tx.spaced_len (l := (L.map LsRefs.codeText).take i) (k := 7) fun w hw => k7 w (List.mem_of_mem_take hw)
        have : ((L.map LsRefs.codeText).take i).length ≤ 1000 := by rw [List.length_take, List.length_map]; omega
        omega
      have ci := (hc _ (List.getElem_mem hi)).1
      refine s_seq (M := fun σ2 H3 => σ2 = [some (.ref a), some (.ref p), some (.int i)] ∧ H3 p = some (.lst (((L.length : Int) :: nb (if i = 0 then [] else LsText.spaced ((L.map LsRefs.codeText).take i) ++ [32])).map V.int))) (s_if (et_test (e_gt (ev_var rfl) ev_c)) (fun c => s_appN sB hfr hq (ev_var rfl) ev_c (by rw [List.length_map, List.length_cons, nb_len]; omega) fun v H3 s3 hv sb => ⟨rfl, ?_⟩) fun c => s_nx fun H3 e => ⟨sB.trans e, rfl, ?_⟩) fun σ2 H3 s3 h3 => ?_
      · cases hv
        have := of_decide_eq_true c
        rw [upd_same, if_neg (by omega), nb_app, List.map_cons, List.map_cons, List.map_append]; rfl
      · have := of_decide_eq_false c
        have i0 : i = 0 := by omega
        subst i0
        exact e _ _ hq
      · obtain ⟨rfl, h3⟩ := h3
        refine s_extN (F := RI) (ys := nb (LsRefs.codeText L[i])) s3 hfr h3 (ev_var rfl) (e_call (ea_consG (R := RSh L[i]) (e_ixF (ev_var rfl) (ev_var rfl) (hA.mono s3) rfl gi) fun _ _ => ea_nil) fun vs H4 e hv => ?_) ?_ fun vs H4 s4 hvs sb => ⟨_, rfl, ?_⟩
        · obtain ⟨v, r, rfl, ⟨c, rfl, hca⟩, hr⟩ := hv
          cases hr
          exact ⟨c, L[i], rfl, hca, hc _ (List.getElem_mem hi), rfl⟩
        · rw [List.length_map, List.length_cons, nb_len, nb_len, Tx.codeText_len]
          split
          · simp; omega
          · rw [List.length_append]; simp; omega
        · rw [upd_same, vals_map (g := V.int) hvs, Tx.spaced_take gw]
          refine congrArg (fun z => some (HO.lst z)) ?_
          rw [← List.map_append]
          refine congrArg (List.map V.int) ?_
          rw [List.cons_append, ← nb_app]
          split
          · rfl
          · rw [List.append_assoc]; rfl
    · obtain ⟨v2, rfl, hq⟩ := q
      rw [List.take_of_length_le (by rw [List.length_map]; omega)] at hq
      exact ⟨_, rfl, hq⟩
    · obtain ⟨v2, rfl, hq⟩ := hM
      exact s_ret s2 ((ev_var rfl).imp fun v H5 e hv => by cases hv; exact ⟨p, rfl, ints_iff.mpr (e _ _ hq)⟩)
end
end Wk
end
/-! ### WFe5 -/
section
set_option Elab.async false
set_option linter.all false
set_option maxRecDepth 100000
set_option maxHeartbeats 2000000
namespace Wk
open PySem PySem.Spec PyProof.Rows L2
open LsGeo (Pt)
open LsRefs (Sheet)
open LsText (Bytes)
def RBy (b : Bytes) : RR := RLst RI (nb b)
instance (b : Bytes) : Mono (RBy b) := (inferInstance : Mono (RLst RI (nb b)))
def refP (b : Bool) (bs : List Bytes) : List Int := if bs.any (fun c => decide (32 < c.length)) = true then [-2] else if b = false then [-1] else match bs.find? fun c => decide (0 ≤ Tx.faultOf c) with
  | some c => [-6, Tx.faultOf c]
  | none => []
theorem find_some {α : Type} {p : α → Bool} {x : α} : ∀ {l : List α} {i : Nat}, (∀ j, j < i → ∀ y, l[j]? = some y → p y = false) → l[i]? = some x → p x = true → l.find? p = some x
  | [], _, _, h, _ => by simp at h
  | a :: r, 0, _, h, k => by simp at h; subst h; rw [List.find?_cons, k]
  | a :: r, i + 1, h1, h, k => by
    have e := h1 0 (by omega) a rfl
    rw [List.find?_cons, e]
    exact find_some (l := r) (i := i) (fun j hj y hy => h1 (j + 1) (by omega) y (by simpa using hy)) (by simpa using h) k
theorem find_nil {α : Type} {p : α → Bool} {l : List α} (h : ∀ (j : Nat) y, l[j]? = some y → p y = false) : l.find? p = none := by
  rw [List.find?_eq_none]
  intro x hx
  obtain ⟨i, hi⟩ := List.mem_iff_getElem?.mp hx
  rw [h i x hi]; decide
section
variable {K : PySem.W.Frag} {σ : L2.St} {H B : Hp} {ta tb te : TE}
theorem e_lstI {ta : TA} {ns : List Int} (h : EvA ta σ H (isA (ns.map V.int))) (hl : ns.length ≤ 1000000) : EvP (tLst ta) σ H (RLst RI ns) := (e_lst h (by rw [List.length_map]; exact hl)).imp fun v H1 _ h => ints_isL.mp h
theorem e_lenY {b : Bytes} {v : V} (ha : EvP ta σ H (isV v)) (h : RBy b v H) : EvP (tCB (fun xs H Q => ∃ p ys, xs = [.ref p] ∧ (SqL K H p ys ∨ SqT K H p ys) ∧ Q (.int ys.length) H) (tCons ta tNil)) σ H (isV (.int b.length)) := by
  obtain ⟨a, rfl, ha2⟩ := h
  exact (e_lenI ha (ints_iff.mp ha2)).is (by rw [nb_len])
theorem e_ixW {p : Addr} {xs : List V} {i : Int} {v : V} (ha : EvP ta σ H (isV (.ref p))) (hb : EvP tb σ H (isV (.int i))) (h : SqT K H p xs) (hi : atI xs i = some v) : EvP (tOp (rIxT K) ta tb) σ H (isV v) := ev_op ha hb (rv_ixT h hi)
theorem joinL_commas : ∀ ys : List Bytes, TL.joinL [44, 32] (ys.map fun y => y.map UInt8.toNat) = (LsBook.commas ys).map UInt8.toNat
  | [] => rfl
  | [_] => rfl
  | x :: y :: r => by
    show x.map UInt8.toNat ++ ([44, 32] ++ TL.joinL [44, 32] ((y :: r).map fun y => y.map UInt8.toNat)) = (x ++ 44 :: 32 :: LsBook.commas (y :: r)).map UInt8.toNat
    rw [joinL_commas (y :: r), List.map_append]; rfl
theorem join_ny (ys : List Bytes) : Txt.join (Str.ofString ", ") (ys.map ny) = ny (LsBook.commas ys) := by
  have e : Str.ofString ", " = SX.S [44, 32] := by decide +kernel
  have m : ys.map ny = (ys.map fun y => y.map UInt8.toNat).map SX.S := by rw [List.map_map]; rfl
  rw [e, m, SX.join_S, joinL_commas]; rfl
def RTx (g : Pt → Bytes) (p : Pt) : RR := isV (.str (ny (g p)))
instance (g : Pt → Bytes) (p : Pt) : Mono (RTx g p) := ⟨fun _ h => h⟩
instance (g : Pt → Bytes) (p : Pt) : Stab (RTx g p) := ⟨fun _ h => h⟩
theorem sum_le {l : List Nat} {k : Nat} (h : ∀ x ∈ l, x ≤ k) : l.sum ≤ k * l.length := by
  induction l with
  | nil => simp
  | cons a r ih =>
    have := h a (List.mem_cons_self ..)
    have := ih fun x hx => h x (List.mem_cons_of_mem _ hx)
    rw [List.sum_cons, List.length_cons, Nat.mul_succ]; omega
theorem e_join {g : Pt → Bytes} {L : List Pt} (h : EvP te σ H (RLst (RTx g) L)) (hg : ∀ p ∈ L, (g p).length ≤ 1000) (hl : L.length ≤ 1000) :
    EvP (tM1 (fun x xs H Q => ∃ a p, ∃ ys : List Str, x = .str a ∧ xs = [.ref p] ∧ (SqL K H p (ys.map V.str) ∨ SqT K H p (ys.map V.str)) ∧ (ys.map (·.length)).sum + ys.length * a.length ≤ 16777216 ∧ Q (.str (Txt.join a ys)) H) (tC (.str (Str.ofString ", "))) te) σ H (isV (.str (ny (LsBook.commas (L.map g))))) := fun H1 e Q q =>
  ⟨⟨_, rfl⟩, h H1 e _ fun v H2 e2 hv => by
    obtain ⟨a, rfl, vs, h1, h2⟩ := hv
    have h1' : H2 a = some (.lst (((L.map g).map ny).map V.str)) := by
      rw [h1, vals_map (g := fun p => V.str (ny (g p))) h2, List.map_map, List.map_map]; rfl
    refine ⟨_, a, (L.map g).map ny, rfl, rfl, .inl (SqL.of h1'), ?_, q _ H2 e2 (by rw [join_ny]; rfl)⟩
    have s := sum_le (l := (((L.map g).map ny).map (·.length))) (k := 1000) fun x hx => by
      rw [List.map_map, List.map_map, List.mem_map] at hx
      obtain ⟨p, hp, rfl⟩ := hx
      show (ny (g p)).length ≤ 1000
      rw [ny_len]; exact hg p hp
    rw [List.length_map, List.length_map, List.length_map] at s
    have e3 : (Str.ofString ", ").length = 2 := by decide +kernel
    rw [e3, List.length_map, List.length_map]; omega⟩
theorem gref {mg : Str → Option Value} {x : Str} {a : Addr} (h : ∃ u, mg x = some u ∧ RelV (.ref a) u) : mg x = some (.ref a) := by
  obtain ⟨u, h1, h2⟩ := h
  rw [h1, (show u = .ref a from h2)]
end
section
variable {P : Program} {w : World} {K : PySem.W.Frag} {mg : Str → Option Value} {base : Heap} {A : Ad} {σ : L2.St} {H B : Hp} {ta tb te : TE} {R : RR}
def sp_refusal (K : PySem.W.Frag) (A : Ad) : Sp := pure fun vs H R => ∃ (b : Bool) (a : Addr) (bs : List Bytes), vs = [.bl b, .ref a] ∧ LstAt RBy H a bs ∧ R = RLst RI (refP b bs)
theorem ok_refusal (T : Txt K mg A) (c_code_fault : C8.Cal P w K mg base 1 "code_fault" (sp_code_fault K A) []) {f : Addr} {fd : FuncData} (F : C8.Def K mg "refusal" s_refusal f fd) (bb : Binds K fd ["in_bounds", "codes"] []) : C8.Cal P w K mg base 2 "refusal" (sp_refusal K A) [] := by
  refine C8.cal0 F bb .nil sc_refusal (fun vs H Q E h => ?_) (fun cdv Ar outer s H vs Q E hr h => ?_)
  · obtain ⟨R, ⟨b, a, bs, rfl, _⟩, _⟩ := h
    rfl
  · obtain ⟨R, ⟨b, a, bs, rfl, hA, rfl⟩, k⟩ := h
    refine ⟨_, (pss_cons (ps_for PassesOwn.never rfl (pi_list (pv 1)) (pg_name (i := 2) sc_refusal.nd rfl (Or.inl rfl)) (pss_one (ps_if (pt_cmpR op_gt (pe_callB call_len_seq (by rfl) T.len (by decide +kernel) (pa_cons (pv 2) pa_nil)) (C8.pe_gc rfl T.g_LONGEST_CODE) (nomark _)) (pss_one (ps_ret (pe_lst (pa_cons (C8.pe_gc rfl T.g_TOO_LONG) pa_nil)))) pss_nil))) (pss_cons (ps_if (pt_not (pt_val (pv 0))) (pss_one (ps_ret (pe_lst (pa_cons (C8.pe_gc rfl T.g_OUT_OF_BOUNDS) pa_nil)))) pss_nil) (pss_cons (ps_for PassesOwn.never rfl (pi_list (pv 1)) (pg_name (i := 2) sc_refusal.nd rfl (Or.inl rfl)) (pss_cons (ps_set (i := 3) sc_refusal.nd rfl (Or.inl rfl) (C8.pe_c c_code_fault hr (by decide) rfl (pa_cons (pv 2) pa_nil))) (pss_one (ps_if (pt_cmpR op_ge (pv 3) pe_int (nomark _)) (pss_one (ps_ret (pe_lst (pa_cons (C8.pe_gc rfl T.g_CODE_FAULT) (pa_cons (pv 3) pa_nil))))) pss_nil)))) (pss_one (ps_ret (pe_lst pa_nil)))))), body (s_seq (M := fun σ' _ => (∃ v2 v3, σ' = [some (.bl b), some (.ref a), v2, v3]) ∧ ∀ (j : Nat) y, bs[j]? = some y → decide (32 < y.length) = false) (s_forQ (F := RBy) (L := bs) (Same.refl _) ((ev_var rfl).imp fun v H1 s e => by cases e; exact ⟨a, rfl, hA.mono s⟩)
      (fun i σ' => (∃ v2 v3, σ' = [some (.bl b), some (.ref a), v2, v3]) ∧ ∀ (j : Nat) y, j < i → bs[j]? = some y → decide (32 < y.length) = false) ⟨⟨_, _, rfl⟩, fun j y h => by omega⟩ (fun i z v σ' H' hz s hv p => ?_) fun σ' H' s p => ⟨p.1, fun j y hy => p.2 j y (List.getElem?_eq_some_iff.mp hy).1 hy⟩) fun σ' H2 s2 hM => ?_) k⟩
    · obtain ⟨⟨v2, v3, rfl⟩, hp⟩ := p
      refine s_if (b := decide ((32 : Int) < z.length)) (et_test (e_gt (e_lenY (ev_var rfl) hv) ev_c)) (fun c => s_ret (Same.refl _) ?_) fun c => s_nx fun H4 e => ⟨e, ⟨_, _, rfl⟩, fun j y hj hy => ?_⟩
      · have e : refP b bs = [-2] := by
          unfold refP
          rw [if_pos (List.any_eq_true.mpr ⟨z, List.mem_of_getElem? hz, decide_eq_true (by have := of_decide_eq_true c; omega)⟩)]
        rw [e]
        exact e_lstI (ns := [-2]) (ea_cons ev_c ea_nil) (by decide)
      · by_cases q : j = i
        · subst q
          rw [hz] at hy; cases hy
          have := of_decide_eq_false c
          exact decide_eq_false (by omega)
        · exact hp j y (by omega) hy
    · obtain ⟨⟨v2, v3, rfl⟩, hM⟩ := hM
      have n1 : ¬ bs.any (fun c => decide (32 < c.length)) = true := fun z => by
        obtain ⟨y, hy, hz⟩ := List.any_eq_true.mp z
        obtain ⟨i, hi⟩ := List.mem_iff_getElem?.mp hy
        rw [hM i y hi] at hz; cases hz
      refine s_when (b := !b) (et_not (et_B (ev_var rfl))) (fun c => s_ret s2 ?_) fun c => ?_
      · have e : refP b bs = [-1] := by
          unfold refP
          rw [if_neg n1, if_pos (by simpa using c)]
        rw [e]
        exact e_lstI (ns := [-1]) (ea_cons ev_c ea_nil) (by decide)
      · have bt : b = true := by simpa using c
        have e0 : refP b bs = (match bs.find? fun c => decide (0 ≤ Tx.faultOf c) with
          | some c => [-6, Tx.faultOf c]
          | none => []) := by
          unfold refP
          rw [if_neg n1, if_neg (by rw [bt]; decide)]
        refine s_seq (M := fun σ' _ => ∀ (j : Nat) y, bs[j]? = some y → decide (0 ≤ Tx.faultOf y) = false) (s_forQ (F := RBy) (L := bs) s2 ((ev_var rfl).imp fun v H1 s e => by cases e; exact ⟨a, rfl, (hA.mono s2).mono s⟩)
          (fun i σ' => (∃ v2 v3, σ' = [some (.bl b), some (.ref a), v2, v3]) ∧ ∀ (j : Nat) y, j < i → bs[j]? = some y → decide (0 ≤ Tx.faultOf y) = false) ⟨⟨_, _, rfl⟩, fun j y h => by omega⟩ (fun i z v σ' H' hz s hv p => ?_) fun σ' H' s p j y hy => p.2 j y (List.getElem?_eq_some_iff.mp hy).1 hy) fun σ' H3 s3 hM2 => s_ret s3 ?_
        · obtain ⟨⟨v2, v3, rfl⟩, hp⟩ := p
          obtain ⟨ca, rfl, hc⟩ := hv
          have zl : z.length ≤ 100 := by have := of_decide_eq_false (hM i z hz); omega
          refine s_set (e_callV (ea_v1 rfl) fun H3 e => ⟨ca, z, rfl, e _ _ (ints_iff.mp hc), zl, rfl⟩) fun v H3 s3 hv => ?_
          cases hv
          refine s_if (b := decide ((0 : Int) ≤ Tx.faultOf z)) (et_test (e_ge (ev_var rfl) ev_c)) (fun c => s_ret s3 ?_) fun c => s_nx fun H4 e => ⟨s3.trans e, ⟨_, _, rfl⟩, fun j y hj hy => ?_⟩
          · have e : refP b bs = [-6, Tx.faultOf z] := by
              rw [e0, find_some (p := fun c => decide (0 ≤ Tx.faultOf c)) (x := z) (fun j hj y hy => hp j y hj hy) hz c]
            rw [e]
            exact e_lstI (ns := [-6, Tx.faultOf z]) (ea_cons ev_c (ea_cons (ev_var rfl) ea_nil)) (by show 2 ≤ 1000000; decide)
          · by_cases q : j = i
            · subst q
              rw [hz] at hy; cases hy
              exact c
            · exact hp j y (by omega) hy
        · have e : refP b bs = [] := by
            rw [e0, find_nil (p := fun c => decide (0 ≤ Tx.faultOf c)) hM2]
          rw [e]
          exact e_lstI (ns := []) ea_nil (by decide)
def sp_counted (K : PySem.W.Frag) (A : Ad) : Sp := pure fun vs H R => ∃ (a : Addr) (ns : List Int), vs = [.ref a] ∧ LstAt RI H a ns ∧ ns.length ≤ 9000000 ∧ R = RLst RI ((ns.length : Int) :: ns)
theorem ok_counted (T : Txt K mg A)  {f : Addr} {fd : FuncData} (F : C8.Def K mg "counted" s_counted f fd) (bb : Binds K fd ["numbers"] []) : C8.Cal P w K mg base 1 "counted" (sp_counted K A) [] := by
  refine C8.cal0 F bb .nil sc_counted (fun vs H Q E h => ?_) (fun cdv Ar outer s H vs Q E hr h => ?_)
  · obtain ⟨R, ⟨a, ns, rfl, _⟩, _⟩ := h
    rfl
  · obtain ⟨R, ⟨a, ns, rfl, hA, hl, rfl⟩, k⟩ := h
    refine ⟨_, (pss_one (ps_ret (pe_op op_cat (pe_lst (pa_cons (pe_callB call_len_seq (by rfl) T.len (by decide +kernel) (pa_cons (pv 0) pa_nil)) pa_nil)) (pv 0)))), body (s_ret (Same.refl _) ((e_cat (xs := [(ns.length : Int)]) (e_lst1 (e_lenI (ev_var rfl) (ints_iff.mp hA))) (fun H1 s => (ev_var rfl).imp fun v H2 e h => by cases h; exact ⟨a, rfl, (hA.mono s).mono e⟩) (by simp; omega)))) k⟩
def sp_bytes_of (K : PySem.W.Frag) (A : Ad) : Sp := pure fun vs H R => ∃ b : Bytes, vs = [.str (ny b)] ∧ b.length ≤ 1000000 ∧ R = RLst RI (nb b)
theorem ok_bytes_of (T : Txt K mg A)  {f : Addr} {fd : FuncData} (F : C8.Def K mg "bytes_of" s_bytes_of f fd) (bb : Binds K fd ["text"] []) : C8.Cal P w K mg base 1 "bytes_of" (sp_bytes_of K A) [] := by
  refine C8.cal0 F bb .nil sc_bytes_of (fun vs H Q E h => ?_) (fun cdv Ar outer s H vs Q E hr h => ?_)
  · obtain ⟨R, ⟨b, rfl, _⟩, _⟩ := h
    rfl
  · obtain ⟨R, ⟨b, rfl, hl, rfl⟩, k⟩ := h
    have sz : (ny b).cps.size = b.length := ny_len b
    refine ⟨_, (pss_one (ps_ret (pe_lc (own := [("sign", 1)]) (tt := tYes) rfl sc_bytes_of.nd (pi_str (pv 0)) (blkOk_by (own := [("sign", 1)]) (N := N_bytes_of) (sc := C8.fnScope s_bytes_of) (by decide +kernel)) (fun _ _ _ _ _ => (pg_name (i := 1) sc_bytes_of.nd rfl (Or.inl rfl))) (fun _ _ _ _ _ => pts_nil) (fun _ _ _ _ _ => (pe_callB call_ord (by rfl) T.ord (by decide +kernel) (pa_cons (pv 1) pa_nil)))))), body (s_ret (Same.refl _) ((e_lcS (z := ny b) (fun _ => true) (fun i => Ro RI ((nb b)[i]?)) (ev_var rfl) (by rw [sz]; exact hl) (fun _ => rfl) (fun _ _ _ _ _ => et_yes) fun i c H' hc s _ => ?_).imp fun v H1 _ r => rlst_all (by rw [sz, nb_len]) r)) k⟩
    have hb : b[i]? = some (UInt8.ofNat c) ∧ (UInt8.ofNat c).toNat = c := by
      unfold ny SX.S at hc
      rw [List.getElem?_toArray, List.getElem?_map] at hc
      obtain ⟨d, hd, rfl⟩ := Option.map_eq_some_iff.mp hc
      rw [hd]; simp
    have g : (nb b)[i]? = some ((c : Nat) : Int) := by
      unfold nb
      rw [List.getElem?_map, hb.1]
      show some (((UInt8.ofNat c).toNat : Nat) : Int) = _
      rw [hb.2]
    rw [g]
    refine e_cb (ea_v1 rfl) fun vs H1 e hv Q q => ?_
    cases hv
    exact ⟨_, rfl, rfl, q _ H1 (Same.refl _) rfl⟩
def wordOf : LsGeo.Shape → String
  | .spot _ => "spot"
  | .line _ => "line"
  | .area _ => "area"
theorem shapeText_eq (s : LsGeo.Shape) : LsBook.shapeText s = LsText.ascii (wordOf s) ++ ([32] ++ LsBook.commas (s.places.map LsBook.placeText)) := by
  cases s with
  | spot p =>
    show LsText.ascii "spot " ++ LsBook.placeText p = LsText.ascii "spot" ++ ([32] ++ LsBook.placeText p)
    rw [← List.append_assoc]; rfl
  | line l =>
    show LsText.ascii "line " ++ _ = LsText.ascii "line" ++ ([32] ++ LsBook.commas (l.map LsBook.placeText))
    rw [← List.append_assoc]; rfl
  | area l =>
    show LsText.ascii "area " ++ _ = LsText.ascii "area" ++ ([32] ++ LsBook.commas (l.map LsBook.placeText))
    rw [← List.append_assoc]; rfl
theorem placeText_len {p : Pt} (h : bp p) : (LsBook.placeText p).length ≤ 15 := by
  unfold bp at h
  have a := Tx.digits_len (n := p.x.toNat) (k := 7) (by decide) (by omega)
  have b := Tx.digits_len (n := p.y.toNat) (k := 7) (by decide) (by omega)
  unfold LsBook.placeText
  rw [List.length_append, List.length_cons]; omega
theorem commas_bound {ps : List Pt} (h : bps ps) (hl : ps.length ≤ 64) : (LsBook.commas (ps.map LsBook.placeText)).length ≤ 1088 := by
  have := Tx.commas_len (l := ps.map LsBook.placeText) (k := 15) fun w hw => by
    obtain ⟨p, hp, rfl⟩ := List.mem_map.mp hw
    exact placeText_len (h p hp)
  rw [List.length_map] at this
  omega
theorem wordOf_len (s : LsGeo.Shape) : (LsText.ascii (wordOf s)).length = 4 := by
  cases s
  · show (LsText.ascii "spot").length = 4; decide +kernel
  · show (LsText.ascii "line").length = 4; decide +kernel
  · show (LsText.ascii "area").length = 4; decide +kernel
theorem shapeText_len {f : LsLand.Feature} (g : goodF f) : (LsBook.shapeText f.shape).length ≤ 1093 := by
  rw [shapeText_eq, List.length_append, List.length_append, wordOf_len]
  have := commas_bound g.bps g.pl
  simp; omega
def sp_shape_text (K : PySem.W.Frag) (A : Ad) : Sp := pure fun vs H R => ∃ a f, vs = [.ref a] ∧ FtAt A H a f ∧ goodF f ∧ R = isV (.str (ny (LsBook.shapeText f.shape)))
theorem ok_shape_text (T : Txt K mg A)  {f : Addr} {fd : FuncData} (F : C8.Def K mg "shape_text" s_shape_text f fd) (bb : Binds K fd ["feature"] []) : C8.Cal P w K mg base 1 "shape_text" (sp_shape_text K A) [] := by
  refine C8.cal0 F bb .nil sc_shape_text (fun vs H Q E h => ?_) (fun cdv Ar outer s H vs Q E hr h => ?_)
  · obtain ⟨R, ⟨a, f, rfl, _⟩, _⟩ := h
    rfl
  · obtain ⟨R, ⟨a, f, rfl, hf, gf, rfl⟩, k⟩ := h
    have pl := gf.pl
    have cb := commas_bound gf.bps gf.pl
    refine ⟨_, (pss_cons (ps_set (i := 1) sc_shape_text.nd rfl (Or.inl rfl) (pe_join pe_str (pe_lc (own := [("x", 2), ("y", 3)]) (tt := tYes) rfl sc_shape_text.nd (pi_list (pe_fld (pv 0) rfl)) (blkOk_by (own := [("x", 2), ("y", 3)]) (N := N_shape_text) (sc := C8.fnScope s_shape_text) (by decide +kernel)) (fun _ _ _ _ _ => (pg_tupK (K := K) (n := 2) rfl rfl (pgs_cons (pg_name (i := 2) sc_shape_text.nd rfl (Or.inl rfl)) (pgs_cons (pg_name (i := 3) sc_shape_text.nd rfl (Or.inl rfl)) pgs_nil)))) (fun _ _ _ _ _ => pts_nil) (fun _ _ _ _ _ => (pe_joined (.cons (pe_fmt (pv 2)) (.cons pe_str (.cons (pe_fmt (pv 3)) .nil)))))))) (pss_one (ps_ret (pe_joined (.cons (pe_fmt (pe_ix ix_tup (C8.pe_gc rfl T.g_SHAPE_WORDS) (pe_fld (pv 0) rfl) (fun _ _ => rfl))) (.cons pe_str (.cons (pe_fmt (pv 1)) .nil))))))), body (s_set (e_join (g := LsBook.placeText) (L := f.shape.places) ((e_lcF2 (F := RPt) (G := RTx LsBook.placeText) (L := f.shape.places) (fun _ => true) (e_places T (ev_var rfl) hf) (by omega) (fun _ _ => rfl) fun z v H2 hz hm s => ?_).imp fun v H1 _ r => by rw [filter_true] at r; exact r) (fun p hp => by have := placeText_len (gf.bps p hp); omega) (by omega)) fun v H1 s1 hv => ?_) k⟩
    · obtain ⟨t, rfl, ht⟩ := hz
      have b := gf.bps z hm
      unfold bp at b
      refine ⟨t, _, _, rfl, ht, fun H' s' => ⟨et_yes, fun _ => e_js ?_⟩⟩
      have dx := Tx.digits_len (n := z.x.toNat) (k := 7) (by decide) (by omega)
      have dy := Tx.digits_len (n := z.y.toNat) (k := 7) (by decide) (by omega)
      refine j_cons (e_fmtN (n := z.x.toNat) ((ev_var rfl).is (congrArg V.int (by omega))) (by omega)) (by simp; omega) (j_cons (e_lit (b := [32]) (by decide +kernel)) (by simp; omega) (j_cons (e_fmtN (n := z.y.toNat) ((ev_var rfl).is (congrArg V.int (by omega))) (by omega)) (by simp; omega) ?_))
      have e : [] ++ LsText.digits z.x.toNat ++ [32] ++ LsText.digits z.y.toNat = LsBook.placeText z := by unfold LsBook.placeText; simp
      rw [e]; exact j_nil
    · cases hv
      refine s_ret s1 (e_js ?_)
      have wl := wordOf_len f.shape
      refine j_cons (e_fmtS (b := LsText.ascii (wordOf f.shape)) (e_ixW (e_const) (e_kind T (ev_var rfl) (hf.mono s1)) (T.w_SHAPE_WORDS H1) ?_) (by omega)) (by simp; omega) (j_cons (e_lit (b := [32]) (by decide +kernel)) (by simp; omega) (j_cons (e_fmtS (ev_var rfl) (by omega)) (by simp; omega) ?_))
      · cases f.shape with
        | spot p => exact (atI_nat (j := 0) rfl).trans (congrArg (fun z => some (V.str z)) (show Str.ofString "spot" = ny (LsText.ascii "spot") by decide +kernel))
        | line p => exact (atI_nat (j := 1) rfl).trans (congrArg (fun z => some (V.str z)) (show Str.ofString "line" = ny (LsText.ascii "line") by decide +kernel))
        | area p => exact (atI_nat (j := 2) rfl).trans (congrArg (fun z => some (V.str z)) (show Str.ofString "area" = ny (LsText.ascii "area") by decide +kernel))
      · have e : [] ++ LsText.ascii (wordOf f.shape) ++ [32] ++ LsBook.commas (f.shape.places.map LsBook.placeText) = LsBook.shapeText f.shape := by rw [shapeText_eq]; simp
        rw [e]; exact j_nil
def namePart (f : LsLand.Feature) : Bytes := if f.name = [] then [] else LsText.quoted f.name ++ [32]
def lineHead (f : LsLand.Feature) : Bytes := LsText.ascii "feature " ++ (LsText.digits f.number ++ (LsText.ascii " of " ++ (LsText.digits f.cls ++ [32])))
theorem featureText_eq (f : LsLand.Feature) : LsBook.featureText f = lineHead f ++ namePart f ++ (LsBook.shapeText f.shape ++ [59, 10]) := by
  unfold LsBook.featureText lineHead namePart
  simp
theorem lineHead_len {f : LsLand.Feature} (g : goodF f) : (lineHead f).length ≤ 100 := by
  have a := Tx.digits_len (n := f.number) (k := 5) (by decide) (by have := g.n2; omega)
  have b := Tx.digits_len (n := f.cls) (k := 2) (by decide) (by have := g.cl; omega)
  have c1 : (LsText.ascii "feature ").length = 8 := by decide +kernel
  have c2 : (LsText.ascii " of ").length = 4 := by decide +kernel
  unfold lineHead
  simp only [List.length_append, c1, c2, List.length_singleton]; omega
theorem namePart_len {f : LsLand.Feature} (g : goodF f) : (namePart f).length ≤ 100 := by
  have := g.nm
  unfold namePart LsText.quoted
  split <;> simp <;> omega
theorem featureText_len {f : LsLand.Feature} (g : goodF f) : (LsBook.featureText f).length ≤ 1300 := by
  rw [featureText_eq]
  have := shapeText_len g
  have := lineHead_len g
  have := namePart_len g
  simp only [List.length_append, List.length_cons, List.length_nil]; omega
def sp_feature_line (K : PySem.W.Frag) (A : Ad) : Sp := pure fun vs H R => ∃ (a : Addr) (f : LsLand.Feature), vs = [.int f.number, .ref a] ∧ FtAt A H a f ∧ goodF f ∧ R = RLst RI (nb (LsBook.featureText f))
theorem ok_feature_line (T : Txt K mg A) (c_bytes_of : C8.Cal P w K mg base 1 "bytes_of" (sp_bytes_of K A) []) (c_shape_text : C8.Cal P w K mg base 1 "shape_text" (sp_shape_text K A) []) {f : Addr} {fd : FuncData} (F : C8.Def K mg "feature_line" s_feature_line f fd) (bb : Binds K fd ["number", "feature"] []) : C8.Cal P w K mg base 2 "feature_line" (sp_feature_line K A) [] := by
  refine C8.cal0 F bb .nil sc_feature_line (fun vs H Q E h => ?_) (fun cdv Ar outer s H vs Q E hr h => ?_)
  · obtain ⟨R, ⟨a, f, rfl, _⟩, _⟩ := h
    rfl
  · obtain ⟨R, ⟨a, f, rfl, hf, gf, rfl⟩, k⟩ := h
    have lh := lineHead_len gf
    have np := namePart_len gf
    have stl := shapeText_len gf
    have n2 := gf.n2
    have cl := gf.cl
    have d1 := Tx.digits_len (n := f.number) (k := 5) (by decide) (by omega)
    have d2 := Tx.digits_len (n := f.cls) (k := 2) (by decide) (by omega)
    have c1 : (LsText.ascii "feature ").length = 8 := by decide +kernel
    have c2 : (LsText.ascii " of ").length = 4 := by decide +kernel
    have lI : ∀ {te : TE} {σ : L2.St} {H : Hp} {ns : List Int}, EvP te σ H (isL (ns.map V.int)) → EvP te σ H (RLst RI ns) := fun h => h.imp fun v H1 _ h => ints_isL.mp h
    refine ⟨_, (pss_cons (ps_set (i := 2) sc_feature_line.nd rfl (Or.inl rfl) (C8.pe_c c_bytes_of hr (by decide) rfl (pa_cons (pe_joined (.cons pe_str (.cons (pe_fmt (pv 0)) (.cons pe_str (.cons (pe_fmt (pe_fld (pv 1) rfl)) (.cons pe_str .nil)))))) pa_nil))) (pss_cons (ps_if (pt_cmpR op_gt (pe_callB call_len_seq (by rfl) T.len (by decide +kernel) (pa_cons (pe_fld (pv 1) rfl) pa_nil)) pe_int (nomark _)) (pss_one (ps_set (i := 2) sc_feature_line.nd rfl (Or.inl rfl) (pe_op op_cat (pe_op op_cat (pe_op op_cat (pv 2) (pe_lst (pa_cons (C8.pe_gc rfl T.g_QUOTE) pa_nil))) (pe_fld (pv 1) rfl)) (pe_lst (pa_cons (C8.pe_gc rfl T.g_QUOTE) (pa_cons (C8.pe_gc rfl T.g_BLANK_texts) pa_nil)))))) pss_nil) (pss_one (ps_ret (pe_op op_cat (pv 2) (C8.pe_c c_bytes_of hr (by decide) rfl (pa_cons (pe_joined (.cons (pe_fmt (C8.pe_c c_shape_text hr (by decide) rfl (pa_cons (pv 1) pa_nil))) (.cons pe_str .nil))) pa_nil))))))), body (s_set (Ra := RLst RI (nb (lineHead f))) (e_call (ea_consG (R := isV (.str (ny (lineHead f)))) (e_js ?_) fun _ _ => ea_nil) fun vs H1 e hv => ?_) fun v H1 s1 hv => ?_) k⟩
    · refine j_cons (e_lit (b := LsText.ascii "feature ") (by decide +kernel)) (by simp; omega) (j_cons (e_fmtN (n := f.number) (ev_var rfl) (by omega)) (by simp; omega) (j_cons (e_lit (b := LsText.ascii " of ") (by decide +kernel)) (by simp; omega) (j_cons (e_fmtN (n := f.cls) (e_group T (ev_var rfl) hf) (by omega)) (by simp; omega) (j_cons (e_lit (b := [32]) (by decide +kernel)) (by simp; omega) ?_))))
      have e : [] ++ LsText.ascii "feature " ++ LsText.digits f.number ++ LsText.ascii " of " ++ LsText.digits f.cls ++ [32] = lineHead f := by unfold lineHead; simp
      rw [e]; exact j_nil
    · obtain ⟨v, r, rfl, hv, hr⟩ := hv
      cases hv; cases hr
      exact ⟨lineHead f, rfl, by omega, rfl⟩
    · obtain ⟨p, rfl, hp⟩ := hv
      have hf1 := hf.mono s1
      refine s_seq (M := fun σ' H' => ∃ q, σ' = [some (.int f.number), some (.ref a), some (.ref q)] ∧ LstAt RI H' q (nb (lineHead f ++ namePart f))) (s_if (b := decide ((0 : Int) < f.name.length)) (et_test (e_gt (e_lenR (e_name T (ev_var rfl) hf1) fun v H2 _ h => ?_) ev_c)) (fun c => s_setN s1 (Ra := RLst RI (nb (lineHead f) ++ [34] ++ nb f.name ++ [34, 32])) (e_cat (e_cat (e_cat ((ev_var rfl).imp fun v H2 e h => by cases h; exact ⟨p, rfl, hp.mono e⟩) (fun H2 s => e_lst1 ev_c) ?_) (fun H2 s => lI (e_name T (ev_var rfl) (hf1.mono s))) ?_) (fun H2 s => e_lstI (ns := [34, 32]) (ea_cons ev_c (ea_cons ev_c ea_nil)) (by show 2 ≤ 1000000; decide)) ?_) fun v H2 s2 hv => ?_) fun c => s_nx fun H2 e => ⟨s1.trans e, p, rfl, ?_⟩) fun σ' H2 s2 hM => ?_
      · obtain ⟨q, rfl, hq⟩ := h
        exact ⟨q, _, rfl, hq, by rw [List.length_map, nb_len]⟩
      · rw [nb_len]; simp; omega
      · have := gf.nm
        rw [List.length_append, nb_len, nb_len]; simp; omega
      · have := gf.nm
        rw [List.length_append, List.length_append, nb_len, nb_len]; simp; omega
      · obtain ⟨q, rfl, hq⟩ := hv
        refine ⟨q, rfl, ?_⟩
        have ne : ¬ f.name = [] := fun z => by rw [z] at c; simp at c
        have e : nb (lineHead f ++ namePart f) = nb (lineHead f) ++ [34] ++ nb f.name ++ [34, 32] := by
          unfold namePart LsText.quoted
          rw [if_neg ne, nb_app]
          simp [nb]
        rw [e]; exact hq
      · have nl : f.name = [] := by
          have := of_decide_eq_false c
          exact List.eq_nil_of_length_eq_zero (by omega)
        unfold namePart
        rw [if_pos nl, List.append_nil]
        exact hp.mono e
      · obtain ⟨q, rfl, hq⟩ := hM
        have hf2 := hf.mono s2
        rw [featureText_eq, nb_app]
        refine s_ret s2 (e_cat ((ev_var rfl).imp fun v H3 e h => by cases h; exact ⟨q, rfl, hq.mono e⟩) (fun H3 s => e_call (ea_consG (R := isV (.str (ny (LsBook.shapeText f.shape ++ [59, 10])))) (e_js ?_) fun _ _ => ea_nil) fun vs H4 e hv => ?_) (by rw [nb_len, nb_len, List.length_append, List.length_append]; simp; omega))
        · refine j_cons (e_fmtS (b := LsBook.shapeText f.shape) (e_callV (ea_v1 rfl) fun H4 e => ⟨a, f, rfl, (hf2.mono s).mono e, gf, rfl⟩) (by omega)) (by simp; omega) (j_cons (e_lit (b := [59, 10]) (by decide +kernel)) (by simp; omega) ?_)
          exact j_nil
        · obtain ⟨v, r, rfl, hv, hr⟩ := hv
          cases hv; cases hr
          exact ⟨_, rfl, by rw [List.length_append]; simp; omega, rfl⟩
end
end Wk
end
/-! ### GLand -/
section
set_option Elab.async false
set_option linter.all false
set_option maxRecDepth 100000
namespace La
open LsLand LsEdit
/-! lands by number: plain -/
def Ris (L : Land) : Prop := L.Pairwise fun f g => f.number < g.number
theorem mem_put {f g : Feature} : ∀ {L : Land}, Ris L → (g ∈ put f L ↔ g = f ∨ (g ∈ L ∧ g.number ≠ f.number))
  | [], _ => by simp [put]
  | h :: r, hr => by
    obtain ⟨h1, h2⟩ := List.pairwise_cons.mp hr
    unfold put
    by_cases c : f.number < h.number
    · rw [if_pos c]
      constructor
      · intro m
        rcases List.mem_cons.mp m with rfl | m
        · exact .inl rfl
        · refine .inr ⟨m, ?_⟩
          rcases List.mem_cons.mp m with rfl | m
          · omega
          · have := h1 g m; omega
      · rintro (rfl | ⟨m, _⟩)
        · exact List.mem_cons_self ..
        · exact List.mem_cons_of_mem _ m
    · rw [if_neg c]
      by_cases e : f.number = h.number
      · rw [if_pos e]
        constructor
        · intro m
          rcases List.mem_cons.mp m with rfl | m
          · exact .inl rfl
          · have := h1 g m
            exact .inr ⟨List.mem_cons_of_mem _ m, by omega⟩
        · rintro (rfl | ⟨m, n⟩)
          · exact List.mem_cons_self ..
          · rcases List.mem_cons.mp m with rfl | m
            · exact absurd e.symm n
            · exact List.mem_cons_of_mem _ m
      · rw [if_neg e]
        constructor
        · intro m
          rcases List.mem_cons.mp m with rfl | m
          · exact .inr ⟨List.mem_cons_self .., fun z => e z.symm⟩
          · rcases (mem_put h2).mp m with rfl | ⟨m, n⟩
            · exact .inl rfl
            · exact .inr ⟨List.mem_cons_of_mem _ m, n⟩
        · rintro (rfl | ⟨m, n⟩)
          · exact List.mem_cons_of_mem _ ((mem_put h2).mpr (.inl rfl))
          · rcases List.mem_cons.mp m with rfl | m
            · exact List.mem_cons_self ..
            · exact List.mem_cons_of_mem _ ((mem_put h2).mpr (.inr ⟨m, n⟩))
theorem ris_put {f : Feature} : ∀ {L : Land}, Ris L → Ris (put f L)
  | [], _ => by unfold put Ris; simp
  | h :: r, hr => by
    obtain ⟨h1, h2⟩ := List.pairwise_cons.mp hr
    unfold put
    by_cases c : f.number < h.number
    · rw [if_pos c]
      refine List.pairwise_cons.mpr ⟨fun g m => ?_, hr⟩
      rcases List.mem_cons.mp m with rfl | m
      · exact c
      · have := h1 g m; omega
    · rw [if_neg c]
      by_cases e : f.number = h.number
      · rw [if_pos e]
        exact List.pairwise_cons.mpr ⟨fun g m => by have := h1 g m; omega, h2⟩
      · rw [if_neg e]
        refine List.pairwise_cons.mpr ⟨fun g m => ?_, ris_put h2⟩
        rcases (mem_put h2).mp m with rfl | ⟨m, _⟩
        · omega
        · exact h1 g m
theorem ris_filter {p : Feature → Bool} {L : Land} (h : Ris L) : Ris (L.filter p) := List.Pairwise.filter p h
theorem ris_out {n : Nat} {L : Land} (h : Ris L) : Ris (out L n) := ris_filter h
theorem mem_out {n : Nat} {L : Land} {g : Feature} : g ∈ out L n ↔ g ∈ L ∧ g.number ≠ n := by
  unfold out
  rw [List.mem_filter]; simp
theorem ris_on {L : Land} {c : LsRefs.Sheet} (h : Ris L) : Ris (onSheet L c) := ris_filter h
theorem ris_inj {L : Land} (h : Ris L) {f g : Feature} (hf : f ∈ L) (hg : g ∈ L) (e : f.number = g.number) : f = g := by
  induction L with
  | nil => simp at hf
  | cons a r ih =>
    obtain ⟨h1, h2⟩ := List.pairwise_cons.mp h
    rcases List.mem_cons.mp hf with e1 | m1 <;> rcases List.mem_cons.mp hg with e2 | m2
    · rw [e1, e2]
    · have := h1 g m2; rw [e1] at e; omega
    · have := h1 f m1; rw [e2] at e; omega
    · exact ih h2 m1 m2
theorem find_some {L : Land} (h : Ris L) {n : Nat} {f : Feature} : find L n = some f ↔ f ∈ L ∧ f.number = n := by
  unfold find
  constructor
  · intro e
    exact ⟨List.mem_of_find?_eq_some e, by simpa using List.find?_some e⟩
  · rintro ⟨m, rfl⟩
    cases e : L.find? (fun g : Feature => g.number == f.number) with
    | none =>
      rw [List.find?_eq_none] at e
      have := e f m
      simp at this
    | some g =>
      have m2 := List.mem_of_find?_eq_some e
      have n2 := List.find?_some e
      rw [ris_inj h m2 m (by simpa using n2)]
theorem find_none {L : Land} {n : Nat} : find L n = none ↔ ∀ f ∈ L, f.number ≠ n := by
  unfold find
  rw [List.find?_eq_none]
  simp
theorem find_isSome {L : Land} {n : Nat} : (find L n).isSome = true ↔ ∃ f ∈ L, f.number = n := by
  unfold find
  rw [List.find?_isSome]; simp
theorem ris_nums {L : Land} (h : Ris L) : (L.map fun f => f.number).Pairwise (· < ·) := List.pairwise_map.mpr h
theorem ris_eq {L M : Land} (hL : Ris L) (hM : Ris M) (h : ∀ n, find L n = find M n) : L = M := by
  have m : ∀ f, f ∈ L ↔ f ∈ M := fun f => by
    have a := find_some hL (n := f.number) (f := f)
    have b := find_some hM (n := f.number) (f := f)
    rw [h] at a
    simp only [and_true] at a b
    rw [← a, b]
  have n1 : L.Nodup := hL.imp fun h z => by subst z; omega
  have n2 : M.Nodup := hM.imp fun h z => by subst z; omega
  refine ((List.perm_ext_iff_of_nodup n1 n2).mpr m).eq_of_pairwise (le := fun (f g : Feature) => f.number < g.number) (fun a b _ _ h1 h2 => by omega) hL hM
theorem sorted_eq {a b : List Nat} (ha : a.Pairwise (· < ·)) (hb : b.Pairwise (· < ·)) (h : ∀ n, n ∈ a ↔ n ∈ b) : a = b := by
  have n1 : a.Nodup := ha.imp fun h => Nat.ne_of_lt h
  have n2 : b.Nodup := hb.imp fun h => Nat.ne_of_lt h
  exact ((List.perm_ext_iff_of_nodup n1 n2).mpr h).eq_of_pairwise (le := fun x y => x < y) (fun a b _ _ h1 h2 => by omega) ha hb
theorem sortedI_eq {a b : List Int} (ha : a.Pairwise (· < ·)) (hb : b.Pairwise (· < ·)) (h : ∀ n, n ∈ a ↔ n ∈ b) : a = b := by
  have n1 : a.Nodup := ha.imp fun h => by omega
  have n2 : b.Nodup := hb.imp fun h => by omega
  exact ((List.perm_ext_iff_of_nodup n1 n2).mpr h).eq_of_pairwise (le := fun x y => x < y) (fun a b _ _ h1 h2 => by omega) ha hb
theorem mem_into {n m : Nat} : ∀ {l : List Nat}, m ∈ into n l ↔ m = n ∨ m ∈ l
  | [] => by simp [into]
  | a :: r => by
    unfold into
    split
    · simp
    · rw [List.mem_cons, mem_into, List.mem_cons]; exact or_left_comm
theorem into_sorted {n : Nat} : ∀ {l : List Nat}, l.Pairwise (· < ·) → n ∉ l → (into n l).Pairwise (· < ·)
  | [], _, _ => by simp [into]
  | a :: r, h, hn => by
    obtain ⟨h1, h2⟩ := List.pairwise_cons.mp h
    unfold into
    split
    · rename_i c
      refine List.pairwise_cons.mpr ⟨fun x m => ?_, h⟩
      rcases List.mem_cons.mp m with rfl | m
      · exact c
      · have := h1 x m; omega
    · rename_i c
      have ne : n ≠ a := fun z => hn (by rw [z]; exact List.mem_cons_self ..)
      refine List.pairwise_cons.mpr ⟨fun x m => ?_, into_sorted h2 fun z => hn (List.mem_cons_of_mem _ z)⟩
      rcases mem_into.mp m with rfl | m
      · omega
      · exact h1 x m
theorem foldl_into : ∀ {ns l : List Nat}, l.Pairwise (· < ·) → ns.Nodup → (∀ n ∈ ns, n ∉ l) → (ns.foldl (fun l n => into n l) l).Pairwise (· < ·) ∧ ∀ m, m ∈ ns.foldl (fun l n => into n l) l ↔ m ∈ l ∨ m ∈ ns
  | [], l, h, _, _ => by simpa using h
  | a :: r, l, h, nd, dj => by
    obtain ⟨d1, d2⟩ := List.nodup_cons.mp nd
    have dj' : ∀ n ∈ r, n ∉ into a l := fun n hn hm => by
      rcases mem_into.mp hm with rfl | hm
      · exact d1 hn
      · exact dj n (List.mem_cons_of_mem _ hn) hm
    obtain ⟨e1, e2⟩ := foldl_into (ns := r) (l := into a l) (into_sorted h (dj a (List.mem_cons_self ..))) d2 dj'
    refine ⟨e1, fun m => ?_⟩
    show m ∈ r.foldl (fun l n => into n l) (into a l) ↔ _
    rw [e2, mem_into, List.mem_cons]
    constructor
    · rintro ((h | h) | h)
      · exact .inr (.inl h)
      · exact .inl h
      · exact .inr (.inr h)
    · rintro (h | h | h)
      · exact .inl (.inr h)
      · exact .inl (.inl h)
      · exact .inr h
def chg (a b : Land) (n : Nat) : Option (Nat × Nat) := match find a n, find b n with
  | none, some _ => some (n, 1)
  | some f, some g => if f = g then none else some (n, 2)
  | some _, none => some (n, 3)
  | none, none => none
theorem changed_eq {a b : Land} (ha : Ris a) (hb : Ris b) {ns : List Nat} (hs : ns.Pairwise (· < ·)) (hm : ∀ n, n ∈ ns ↔ (find a n).isSome = true ∨ (find b n).isSome = true) : changed a b = ns.filterMap (chg a b) := by
  have nd : ((a.map fun (f : Feature) => f.number) ++ (b.filter fun (f : Feature) => (find a f.number).isNone).map fun (f : Feature) => f.number).Nodup := by
    rw [List.nodup_append]
    refine ⟨(ris_nums ha).imp fun h => Nat.ne_of_lt h, (ris_nums (ris_filter hb)).imp fun h => Nat.ne_of_lt h, fun x hx y hy e => ?_⟩
    subst e
    obtain ⟨f, hf, rfl⟩ := List.mem_map.mp hx
    obtain ⟨g, hg, e⟩ := List.mem_map.mp hy
    rw [List.mem_filter] at hg
    have := hg.2
    rw [Option.isNone_iff_eq_none, e] at this
    exact find_none.mp this f hf rfl
  obtain ⟨e1, e2⟩ := foldl_into (l := []) List.Pairwise.nil nd (by simp)
  have e : ((a.map fun (f : Feature) => f.number) ++ (b.filter fun (f : Feature) => (find a f.number).isNone).map fun (f : Feature) => f.number).foldl (fun (l : List Nat) (n : Nat) => into n l) [] = ns := by
    refine sorted_eq e1 hs fun n => ?_
    rw [e2, hm, List.mem_append, List.mem_map, List.mem_map, find_isSome, find_isSome]
    constructor
    · rintro (h | h | ⟨f, hf, rfl⟩)
      · simp at h
      · exact .inl h
      · exact .inr ⟨f, (List.mem_filter.mp hf).1, rfl⟩
    · rintro (h | ⟨f, hf, rfl⟩)
      · exact .inr (.inl h)
      · by_cases k : (find a f.number).isNone = true
        · exact .inr (.inr ⟨f, List.mem_filter.mpr ⟨hf, k⟩, rfl⟩)
        · rw [Bool.not_eq_true, Option.isNone_eq_false_iff, find_isSome] at k
          exact .inr (.inl k)
  unfold changed
  simp only [e]
  rfl
/-- all numbers of two lands, rising -/
def nums (a b : Land) : List Nat := ((a.map fun (f : Feature) => f.number) ++ (b.filter fun (f : Feature) => (find a f.number).isNone).map fun (f : Feature) => f.number).foldl (fun (l : List Nat) (n : Nat) => into n l) []
theorem nums_ok {a b : Land} (ha : Ris a) (hb : Ris b) : (nums a b).Pairwise (· < ·) ∧ ∀ n, n ∈ nums a b ↔ (find a n).isSome = true ∨ (find b n).isSome = true := by
  have nd : ((a.map fun (f : Feature) => f.number) ++ (b.filter fun (f : Feature) => (find a f.number).isNone).map fun (f : Feature) => f.number).Nodup := by
    rw [List.nodup_append]
    refine ⟨(ris_nums ha).imp fun h => Nat.ne_of_lt h, (ris_nums (ris_filter hb)).imp fun h => Nat.ne_of_lt h, fun x hx y hy e => ?_⟩
    subst e
    obtain ⟨f, hf, rfl⟩ := List.mem_map.mp hx
    obtain ⟨g, hg, e⟩ := List.mem_map.mp hy
    rw [List.mem_filter] at hg
    have := hg.2
    rw [Option.isNone_iff_eq_none, e] at this
    exact find_none.mp this f hf rfl
  obtain ⟨e1, e2⟩ := foldl_into (l := []) List.Pairwise.nil nd (by simp)
  refine ⟨e1, fun n => ?_⟩
  show n ∈ List.foldl _ _ _ ↔ _
  rw [e2, List.mem_append, List.mem_map, List.mem_map, find_isSome, find_isSome]
  constructor
  · rintro (h | h | ⟨f, hf, rfl⟩)
    · simp at h
    · exact .inl h
    · exact .inr ⟨f, (List.mem_filter.mp hf).1, rfl⟩
  · rintro (h | ⟨f, hf, rfl⟩)
    · exact .inr (.inl h)
    · by_cases k : (find a f.number).isNone = true
      · exact .inr (.inr ⟨f, List.mem_filter.mpr ⟨hf, k⟩, rfl⟩)
      · rw [Bool.not_eq_true, Option.isNone_eq_false_iff, find_isSome] at k
        exact .inr (.inl k)
theorem into_len {n : Nat} : ∀ l : List Nat, (into n l).length = l.length + 1
  | [] => rfl
  | a :: r => by
    unfold into
    split
    · rfl
    · rw [List.length_cons, into_len r, List.length_cons]
theorem foldl_len : ∀ (ns l : List Nat), (ns.foldl (fun l n => into n l) l).length = l.length + ns.length
  | [], l => rfl
  | a :: r, l => by
    show (r.foldl (fun l n => into n l) (into a l)).length = _
    rw [foldl_len r, into_len, List.length_cons]; omega
theorem nums_len (L M : Land) : (nums L M).length ≤ L.length + M.length := by
  unfold nums
  rw [foldl_len, List.length_append, List.length_map, List.length_map]
  have := List.length_filter_le (fun f : Feature => (find L f.number).isNone) M
  show 0 + _ ≤ _
  omega
theorem chg_fst {a b : Land} {n : Nat} {p : Nat × Nat} (h : chg a b n = some p) : p.1 = n := by
  unfold chg at h
  split at h
  · cases h; rfl
  · split at h
    · cases h
    · cases h; rfl
  · cases h; rfl
  · cases h
/-- nothing has changed: they are the same -/
theorem changed_nil {a b : Land} (ha : Ris a) (hb : Ris b) : (changed a b).length = 0 ↔ a = b := by
  obtain ⟨h1, h2⟩ := nums_ok ha hb
  rw [changed_eq ha hb h1 h2, List.length_eq_zero_iff, List.filterMap_eq_nil_iff]
  constructor
  · intro h
    refine ris_eq ha hb fun n => ?_
    by_cases m : n ∈ nums a b
    · have := h n m
      unfold chg at this
      split at this
      · cases this
      · rename_i f g e1 e2
        split at this
        · rename_i e; rw [e1, e2, e]
        · cases this
      · cases this
      · rename_i e1 e2; rw [e1, e2]
    · have e := mt (h2 n).mpr m
      have e1 : find a n = none := by
        cases h : find a n with
        | none => rfl
        | some f => exact absurd (.inl (by rw [h]; rfl)) e
      have e2 : find b n = none := by
        cases h : find b n with
        | none => rfl
        | some f => exact absurd (.inr (by rw [h]; rfl)) e
      rw [e1, e2]
  · rintro rfl n m
    unfold chg
    cases find a n with
    | none => rfl
    | some f => simp
theorem torn_eq {a b : Land} (ha : Ris a) (hb : Ris b) : torn a b = ((changed a b).filter fun x => decide (x.2 = 2)).map fun x => x.1 := by
  obtain ⟨h1, h2⟩ := nums_ok ha hb
  rw [changed_eq ha hb h1 h2]
  refine sorted_eq (ris_nums (ris_filter ha)) ?_ fun n => ?_
  · rw [List.pairwise_map]
    refine List.Pairwise.filter _ ?_
    rw [List.pairwise_filterMap]
    refine h1.imp fun {x y} h p hp q hq => ?_
    rw [chg_fst hp, chg_fst hq]; exact h
  · unfold torn
    rw [List.mem_map, List.mem_map]
    constructor
    · rintro ⟨f, hf, rfl⟩
      rw [List.mem_filter] at hf
      obtain ⟨hf, hk⟩ := hf
      have ef := (find_some ha (n := f.number) (f := f)).mpr ⟨hf, rfl⟩
      cases eb : find b f.number with
      | none => rw [eb] at hk; cases hk
      | some g =>
        rw [eb] at hk
        have ne : ¬ f = g := fun z => by subst z; simp at hk
        refine ⟨(f.number, 2), List.mem_filter.mpr ⟨List.mem_filterMap.mpr ⟨f.number, (h2 _).mpr (.inl (by rw [ef]; rfl)), ?_⟩, by simp⟩, rfl⟩
        unfold chg; rw [ef, eb]; simp only; rw [if_neg ne]
    · rintro ⟨p, hp, rfl⟩
      rw [List.mem_filter, List.mem_filterMap] at hp
      obtain ⟨⟨m, hm, hc⟩, h2'⟩ := hp
      have p2 : p.2 = 2 := of_decide_eq_true h2'
      have p1 := chg_fst hc
      unfold chg at hc
      split at hc
      · cases hc; cases p2
      · rename_i f g ef eg
        split at hc
        · cases hc
        · rename_i ne
          have := (find_some ha).mp ef
          refine ⟨f, List.mem_filter.mpr ⟨this.1, ?_⟩, by rw [p1]; exact this.2⟩
          rw [this.2, eg]
          show (g != f) = true
          rw [bne_iff_ne]
          exact fun z => ne z.symm
      · cases hc; cases p2
      · cases hc
theorem put_len (f : Feature) : ∀ L : Land, (put f L).length ≤ L.length + 1
  | [] => by simp [put]
  | h :: r => by
    have := put_len f r
    unfold put
    split
    · simp
    · split
      · simp
      · simp; omega
theorem put_len_in {f : Feature} : ∀ {L : Land}, Ris L → (find L f.number).isSome = true → (put f L).length = L.length
  | [], _, h => by simp [find] at h
  | h :: r, hr, hs => by
    obtain ⟨h1, h2⟩ := List.pairwise_cons.mp hr
    obtain ⟨g, hg, e⟩ := find_isSome.mp hs
    unfold put
    split
    · rename_i c
      rcases List.mem_cons.mp hg with rfl | hg
      · omega
      · have := h1 g hg; omega
    · split
      · simp
      · rename_i c1 c2
        rcases List.mem_cons.mp hg with rfl | hg
        · omega
        · simp [put_len_in h2 (find_isSome.mpr ⟨g, hg, e⟩)]
end La
end
/-! ### WLand -/
section
set_option Elab.async false
set_option linter.all false
set_option maxRecDepth 100000
set_option maxHeartbeats 2000000
namespace Wk
open PySem PySem.Spec PyProof.Rows L2
open LsGeo (Pt)
open LsRefs (Sheet)
open LsText (Bytes)
open LsLand (Feature Land)
/-! a heap without one thing -/
def rm (H : Hp) (a : Addr) : Hp := fun b => if b = a then none else H b
theorem rm_same {H : Hp} {a : Addr} : Same (rm H a) H := fun b u h => by
  unfold rm at h
  split at h
  · cases h
  · exact h
theorem rm_at {H : Hp} {a : Addr} : rm H a a = none := if_pos rfl
theorem rm_ne {H : Hp} {a b : Addr} {u : HO} (h : H b = some u) (n : b ≠ a) : rm H a b = some u := by
  unfold rm; rw [if_neg n]; exact h
theorem rm_upd {H : Hp} {a : Addr} {o : HO} : Same (rm H a) (upd H a o) := fun b u h => by
  unfold rm at h
  split at h
  · cases h
  · rename_i n
    rw [upd_ne n]; exact h
theorem rm_of {B H : Hp} {a : Addr} (s : Same B H) (h : B a = none) : Same B (rm H a) := fun b u e => rm_ne (s _ _ e) (ne_of_none e h)
theorem PtAt.rm {H : Hp} {a d : Addr} {p : Pt} {kvs : List (Key × V)} (h : PtAt H a p) (e : H d = some (.dK kvs)) : PtAt (rm H d) a p := rm_ne h (ne_of h e (by intro z; cases z))
theorem FtAt.rm {A : Ad} {H : Hp} {a d : Addr} {f : Feature} {kvs : List (Key × V)} (h : FtAt A H a f) (e : H d = some (.dK kvs)) : FtAt A (rm H d) a f := by
  obtain ⟨dx, na, pa, ba, h1, h2, ⟨vs, h3, h4⟩, h5⟩ := h
  refine ⟨dx, na, pa, ba, rm_ne h1 (ne_of h1 e (by intro z; cases z)), rm_ne h2 (ne_of h2 e (by intro z; cases z)), ⟨vs, rm_ne h3 (ne_of h3 e (by intro z; cases z)), h4.monoP fun v x q => ?_⟩, rm_ne h5 (ne_of h5 e (by intro z; cases z))⟩
  obtain ⟨b, rfl, hb⟩ := q
  exact ⟨b, rfl, hb.rm e⟩
/-! a land in the heap -/
def kvOf (p : Feature × Addr) : Key × V := (.inl (p.1.number : Int), .ref p.2)
def LandP (A : Ad) (H : Hp) (ps : List (Feature × Addr)) (L : Land) : Prop := (∀ p ∈ ps, FtAt A H p.2 p.1) ∧ (ps.map fun p => p.1.number).Nodup ∧ ∀ f, (∃ a, (f, a) ∈ ps) ↔ f ∈ L
def LandAt (A : Ad) (H : Hp) (d : Addr) (L : Land) : Prop := ∃ ps : List (Feature × Addr), H d = some (.dK (ps.map kvOf)) ∧ LandP A H ps L
def RLand (A : Ad) (L : Land) : RR := fun v H => ∃ d, v = .ref d ∧ LandAt A H d L
theorem LandP.mono {A : Ad} {H H' : Hp} {ps : List (Feature × Addr)} {L : Land} (e : Same H H') (h : LandP A H ps L) : LandP A H' ps L := ⟨fun p hp => (h.1 p hp).mono e, h.2⟩
theorem LandAt.mono {A : Ad} {H H' : Hp} {d : Addr} {L : Land} (e : Same H H') (h : LandAt A H d L) : LandAt A H' d L := by
  obtain ⟨ps, h1, h2⟩ := h
  exact ⟨ps, e _ _ h1, h2.mono e⟩
instance (A : Ad) (L : Land) : Mono (RLand A L) := ⟨fun e ⟨a, h1, h2⟩ => ⟨a, h1, h2.mono e⟩⟩
theorem ps_len {A : Ad} {H : Hp} {ps : List (Feature × Addr)} {L : Land} (h : LandP A H ps L) (r : La.Ris L) : ps.length = L.length := by
  have n1 : (ps.map Prod.fst).Nodup := by
    have := h.2.1
    rw [List.Nodup, List.pairwise_map] at this ⊢
    exact this.imp fun h z => h (by rw [z])
  have n2 : L.Nodup := r.imp fun h z => by subst z; omega
  have p := (List.perm_ext_iff_of_nodup n1 n2).mpr fun f => by
    rw [← h.2.2 f, List.mem_map]
    constructor
    · rintro ⟨⟨g, a⟩, hm, rfl⟩; exact ⟨a, hm⟩
    · rintro ⟨a, hm⟩; exact ⟨(f, a), hm, rfl⟩
  have := p.length_eq
  rw [List.length_map] at this
  exact this
theorem val_in {f : Feature} {a : Addr} : ∀ {ps : List (Feature × Addr)}, (ps.map fun p => p.1.number).Nodup → (f, a) ∈ ps → valV (ps.map kvOf) (.inl (f.number : Int)) = some (.ref a)
  | [], _, h => by simp at h
  | p :: r, nd, h => by
    rw [List.map_cons, List.nodup_cons] at nd
    rw [List.map_cons]
    rcases List.mem_cons.mp h with rfl | h
    · exact valV_pos rfl
    · rw [valV_neg]
      · exact val_in nd.2 h
      · intro z
        have z' : (p.1.number : Int) = f.number := Sum.inl.inj z
        refine nd.1 (List.mem_map.mpr ⟨(f, a), h, ?_⟩)
        show f.number = p.1.number
        omega
theorem val_out {n : Nat} : ∀ {ps : List (Feature × Addr)}, (∀ p ∈ ps, p.1.number ≠ n) → valV (ps.map kvOf) (.inl (n : Int)) = none
  | [], _ => rfl
  | p :: r, h => by
    rw [List.map_cons, valV_neg]
    · exact val_out fun q hq => h q (List.mem_cons_of_mem _ hq)
    · intro z
      have z' : (p.1.number : Int) = n := Sum.inl.inj z
      exact h p (List.mem_cons_self ..) (by omega)
/-- what a land has at a number -/
theorem land_val {A : Ad} {H : Hp} {ps : List (Feature × Addr)} {L : Land} (h : LandP A H ps L) (r : La.Ris L) (n : Nat) : (∃ f a, LsLand.find L n = some f ∧ f.number = n ∧ (f, a) ∈ ps ∧ valV (ps.map kvOf) (.inl (n : Int)) = some (.ref a) ∧ FtAt A H a f) ∨ (LsLand.find L n = none ∧ valV (ps.map kvOf) (.inl (n : Int)) = none ∧ ∀ p ∈ ps, p.1.number ≠ n) := by
  cases e : LsLand.find L n with
  | none =>
    have k : ∀ p ∈ ps, p.1.number ≠ n := fun p hp => La.find_none.mp e p.1 ((h.2.2 p.1).mp ⟨p.2, hp⟩)
    exact .inr ⟨rfl, val_out k, k⟩
  | some f =>
    obtain ⟨hm, rfl⟩ := (La.find_some r).mp e
    obtain ⟨a, ha⟩ := (h.2.2 f).mpr hm
    exact .inl ⟨f, a, rfl, rfl, ha, val_in h.2.1 ha, h.1 _ ha⟩
/-- a feature put in -/
def putPs (ps : List (Feature × Addr)) (f : Feature) (a : Addr) : List (Feature × Addr) := if (ps.any fun p => decide (p.1.number = f.number)) = true then ps.map fun p => if p.1.number = f.number then (f, a) else p else ps ++ [(f, a)]
def dropPs (ps : List (Feature × Addr)) (n : Nat) : List (Feature × Addr) := ps.filter fun p => decide (p.1.number ≠ n)
theorem land_put {A : Ad} {H : Hp} {ps : List (Feature × Addr)} {L : Land} {f : Feature} {a : Addr} (h : LandP A H ps L) (r : La.Ris L) (hf : FtAt A H a f) : putK (ps.map kvOf) (.inl (f.number : Int)) (.ref a) = (putPs ps f a).map kvOf ∧ LandP A H (putPs ps f a) (LsLand.put f L) := by
  rcases land_val h r f.number with ⟨g, b, e1, e2, e3, e4, e5⟩ | ⟨e1, e2, e3⟩
  · have pe : putPs ps f a = ps.map fun p => if p.1.number = f.number then (f, a) else p := if_pos (List.any_eq_true.mpr ⟨(g, b), e3, decide_eq_true e2⟩)
    rw [pe]
    refine ⟨?_, fun p hp => ?_, ?_, fun x => ?_⟩
    · unfold putK
      rw [valV_any, e4]
      show List.map _ _ = _
      rw [List.map_map, List.map_map]
      refine List.map_congr_left fun p hp => ?_
      show (if (Sum.inl (p.1.number : Int) : Key) = .inl (f.number : Int) then ((Sum.inl (p.1.number : Int) : Key), V.ref a) else kvOf p) = kvOf (if p.1.number = f.number then (f, a) else p)
      by_cases c : p.1.number = f.number
      · rw [if_pos (congrArg Sum.inl (by omega)), if_pos c]
        unfold kvOf; rw [c]
      · rw [if_neg (fun z => c (by have := Sum.inl.inj z; omega)), if_neg c]
    · obtain ⟨q, hq, rfl⟩ := List.mem_map.mp hp
      split
      · exact hf
      · exact h.1 q hq
    · have e : ((ps.map fun p => if p.1.number = f.number then (f, a) else p).map fun p => p.1.number) = ps.map fun p => p.1.number := by
        rw [List.map_map]
        refine List.map_congr_left fun p hp => ?_
        show (if p.1.number = f.number then (f, a) else p).1.number = p.1.number
        split
        · rename_i c; exact c.symm
        · rfl
      rw [e]; exact h.2.1
    · rw [La.mem_put r]
      constructor
      · rintro ⟨c, hc⟩
        obtain ⟨q, hq, e⟩ := List.mem_map.mp hc
        by_cases k : q.1.number = f.number
        · rw [if_pos k] at e; cases e; exact .inl rfl
        · rw [if_neg k] at e; subst e
          exact .inr ⟨(h.2.2 x).mp ⟨c, hq⟩, k⟩
      · rintro (rfl | ⟨hm, k⟩)
        · exact ⟨a, List.mem_map.mpr ⟨(g, b), e3, by rw [if_pos e2]⟩⟩
        · obtain ⟨c, hc⟩ := (h.2.2 x).mpr hm
          exact ⟨c, List.mem_map.mpr ⟨(x, c), hc, by rw [if_neg k]⟩⟩
  · have pe : putPs ps f a = ps ++ [(f, a)] := if_neg fun z => by
      obtain ⟨p, hp, hk⟩ := List.any_eq_true.mp z
      exact e3 p hp (of_decide_eq_true hk)
    rw [pe]
    refine ⟨?_, fun p hp => ?_, ?_, fun x => ?_⟩
    · rw [putK_new _ e2, List.map_append]; rfl
    · rcases List.mem_append.mp hp with hp | hp
      · exact h.1 p hp
      · rw [List.mem_singleton] at hp; subst hp; exact hf
    · rw [List.map_append, List.nodup_append]
      refine ⟨h.2.1, by simp, fun x hx y hy => ?_⟩
      obtain ⟨p, hp, rfl⟩ := List.mem_map.mp hx
      rw [List.map_singleton, List.mem_singleton] at hy
      subst hy
      exact e3 p hp
    · rw [La.mem_put r]
      constructor
      · rintro ⟨c, hc⟩
        rcases List.mem_append.mp hc with hc | hc
        · exact .inr ⟨(h.2.2 x).mp ⟨c, hc⟩, e3 _ hc⟩
        · rw [List.mem_singleton] at hc; cases hc; exact .inl rfl
      · rintro (rfl | ⟨hm, k⟩)
        · exact ⟨a, List.mem_append_right _ (List.mem_singleton.mpr rfl)⟩
        · obtain ⟨c, hc⟩ := (h.2.2 x).mpr hm
          exact ⟨c, List.mem_append_left _ hc⟩
theorem land_drop {A : Ad} {H : Hp} {ps : List (Feature × Addr)} {L : Land} {n : Nat} (h : LandP A H ps L) : dropK (ps.map kvOf) (.inl (n : Int)) = (dropPs ps n).map kvOf ∧ LandP A H (dropPs ps n) (LsLand.out L n) := by
  unfold dropPs
  refine ⟨?_, fun p hp => h.1 p (List.mem_filter.mp hp).1, ?_, fun x => ?_⟩
  · unfold dropK
    rw [List.filter_map]
    refine congrArg (List.map kvOf) (List.filter_congr fun p hp => ?_)
    show decide ((Sum.inl (p.1.number : Int) : Key) ≠ .inl (n : Int)) = decide (p.1.number ≠ n)
    rw [decide_eq_decide]
    constructor
    · intro z e; exact z (congrArg Sum.inl (by omega))
    · intro z e; exact z (by have := Sum.inl.inj e; omega)
  · exact List.Nodup.sublist ((List.filter_sublist (l := ps)).map _) h.2.1
  · rw [La.mem_out]
    constructor
    · rintro ⟨c, hc⟩
      obtain ⟨h1, h2⟩ := List.mem_filter.mp hc
      exact ⟨(h.2.2 x).mp ⟨c, h1⟩, of_decide_eq_true h2⟩
    · rintro ⟨hm, k⟩
      obtain ⟨c, hc⟩ := (h.2.2 x).mpr hm
      exact ⟨c, List.mem_filter.mpr ⟨hc, decide_eq_true k⟩⟩
theorem land_filter {A : Ad} {H : Hp} {ps : List (Feature × Addr)} {L : Land} {k : Feature → Bool} (h : LandP A H ps L) : LandP A H (ps.filter fun p => k p.1) (L.filter k) := by
  refine ⟨fun p hp => h.1 p (List.mem_filter.mp hp).1, List.Nodup.sublist ((List.filter_sublist (l := ps)).map _) h.2.1, fun x => ?_⟩
  rw [List.mem_filter]
  constructor
  · rintro ⟨c, hc⟩
    obtain ⟨h1, h2⟩ := List.mem_filter.mp hc
    exact ⟨(h.2.2 x).mp ⟨c, h1⟩, h2⟩
  · rintro ⟨hm, k⟩
    obtain ⟨c, hc⟩ := (h.2.2 x).mpr hm
    exact ⟨c, List.mem_filter.mpr ⟨hc, k⟩⟩
section
variable {K : PySem.W.Frag} {σ : L2.St} {B H : Hp} {ta tb te td ty tv tl : TE} {t u z : TS} {R Ra : RR} {N : L2.St → Hp → Prop} {A : Ad} {L : Land}
theorem e_din {n : Nat} (hy : EvP ty σ H (isV (.int n))) (hd : EvP td σ H (RLand A L)) (r : La.Ris L) : EvP (tDIn ty td) σ H (isV (.bl (LsLand.find L n).isSome)) := fun H1 e Q q =>
  hy H1 e _ fun y H2 e2 h1 => hd H2 (e.trans e2) _ fun x H3 e3 h2 => by
    cases h1
    obtain ⟨a, rfl, ps, h3, h4⟩ := h2
    refine ⟨a, valV (ps.map kvOf) (.inl (n : Int)), rfl, DGet.k (k := .inl (n : Int)) h3, q _ H3 (e2.trans e3) ?_⟩
    rcases land_val h4 r n with ⟨f, b, e1, _, _, e4, _⟩ | ⟨e1, e4, _⟩ <;> rw [e1, e4] <;> rfl
theorem e_dnotin {n : Nat} (hy : EvP ty σ H (isV (.int n))) (hd : EvP td σ H (RLand A L)) (r : La.Ris L) : EvP (tDNotIn ty td) σ H (isV (.bl (!(LsLand.find L n).isSome))) := fun H1 e Q q =>
  hy H1 e _ fun y H2 e2 h1 => hd H2 (e.trans e2) _ fun x H3 e3 h2 => by
    cases h1
    obtain ⟨a, rfl, ps, h3, h4⟩ := h2
    refine ⟨a, valV (ps.map kvOf) (.inl (n : Int)), rfl, DGet.k (k := .inl (n : Int)) h3, q _ H3 (e2.trans e3) ?_⟩
    rcases land_val h4 r n with ⟨f, b, e1, _, _, e4, _⟩ | ⟨e1, e4, _⟩ <;> rw [e1, e4] <;> rfl
theorem e_dget {n : Nat} {f : Feature} (hd : EvP td σ H (RLand A L)) (hy : EvP ty σ H (isV (.int n))) (r : La.Ris L) (hf : LsLand.find L n = some f) : EvP (tDGet td ty) σ H (RFt A f) := fun H1 e Q q =>
  hd H1 e _ fun x H2 e2 h2 => hy H2 (e.trans e2) _ fun y H3 e3 h1 => by
    cases h1
    have h2 := Mono.mono (R := RLand A L) e3 h2
    obtain ⟨a, rfl, ps, h3, h4⟩ := h2
    rcases land_val h4 r n with ⟨g, b, e1, _, _, e4, e5⟩ | ⟨e1, e4, _⟩
    · rw [hf] at e1; cases e1
      exact ⟨a, .ref b, rfl, by rw [← e4]; exact DGet.k (k := .inl (n : Int)) h3, q _ H3 (e2.trans e3) ⟨b, rfl, e5⟩⟩
    · rw [hf] at e1; cases e1
theorem e_lenD (hd : EvP ta σ H (RLand A L)) (r : La.Ris L) : EvP (tCB (fun xs H Q => ∃ a kvs, xs = [V.ref a] ∧ H a = some (.dK kvs) ∧ Q (.int kvs.length) H) (tCons ta tNil)) σ H (isV (.int L.length)) :=
  e_cb (ea_consG hd fun _ _ => ea_nil) fun vs H1 e hv Q q => by
    obtain ⟨v, r', rfl, ⟨a, rfl, ps, h1, h2⟩, hr⟩ := hv
    cases hr
    refine ⟨a, _, rfl, h1, q _ H1 (Same.refl _) ?_⟩
    rw [List.length_map, ps_len h2 r]; rfl
/-- sorted(land) -/
theorem e_sortedD (hd : EvP ta σ H (RLand A L)) (r : La.Ris L) : EvP (tCB rSortedDI (tCons ta tNil)) σ H (isF H ((L.map fun f => (f.number : Int)).map V.int)) := fun H1 e Q q =>
  hd H1 e _ fun x H2 e2 h2 => by
    obtain ⟨a, rfl, ps, h3, h4⟩ := h2
    refine ⟨a, ps.map kvOf, ps.map fun p => (p.1.number : Int), rfl, .inl h3, ?_, fun ys p hp hs hn => q _ _ (e2.trans (Same.new hn)) ⟨p, rfl, ?_, (e.trans e2).free hn⟩⟩
    · rw [List.map_map, List.map_map]; rfl
    · rw [upd_same]
      refine congrArg (fun z => some (HO.lst (List.map V.int z))) ?_
      have nd : (ps.map fun p => (p.1.number : Int)).Nodup := by
        have := h4.2.1
        rw [List.Nodup, List.pairwise_map] at this ⊢
        exact this.imp fun h z => h (by omega)
      have nd2 : ys.Nodup := hp.nodup_iff.mpr nd
      have lt : ys.Pairwise (· < ·) := (hs.and nd2).imp fun ⟨a, b⟩ => by omega
      refine La.sortedI_eq lt ?_ fun m => ?_
      · have := La.ris_nums r
        rw [List.pairwise_map] at this ⊢
        exact this.imp fun h => by omega
      · rw [hp.mem_iff, List.mem_map, List.mem_map]
        constructor
        · rintro ⟨p, hp, rfl⟩; exact ⟨p.1, (h4.2.2 p.1).mp ⟨p.2, hp⟩, rfl⟩
        · rintro ⟨f, hf, rfl⟩
          obtain ⟨b, hb⟩ := (h4.2.2 f).mpr hf
          exact ⟨(f, b), hb, rfl⟩
/-- d[k] = v, d behind -/
theorem s_dputK {a : Addr} {kvs : List (Key × V)} {k : Key} {v : V} (s : Same B H) (hB : B a = none) (ha : H a = some (.dK kvs)) (hd : EvP td σ H (isV (.ref a))) (hy : EvP ty σ H (isV (kV k))) (hv : EvP tv σ H (isV v)) (hl : kvs.length < 1000000)
    (kk : ∀ H1, Same H H1 → Same B (upd H1 a (.dK (putK kvs k v))) → N σ (upd H1 a (.dK (putK kvs k v)))) : Run (sDPut td ty tv) σ B H R N := fun H1 e D q n =>
  hv H1 e _ fun x H2 e2 h1 => hd H2 (e.trans e2) _ fun y H3 e3 h2 => hy H3 ((e.trans e2).trans e3) _ fun w H4 e4 h3 => by
    cases h1; cases h2; cases h3
    have st := ((e.trans e2).trans e3).trans e4
    have sb := (s.trans st).mut (o := .dK (putK kvs k v)) hB
    exact ⟨a, _, rfl, DPut.k (st _ _ ha) (sz_lt (by omega)), n _ _ sb (kk H4 st sb)⟩
/-- d.pop(k), d behind -/
theorem s_dpop {a : Addr} {kvs : List (Key × V)} {k : Key} {v : V} (s : Same B H) (hB : B a = none) (ha : H a = some (.dK kvs)) (hd : EvP td σ H (isV (.ref a))) (hy : EvP ty σ H (isV (kV k))) (hv : valV kvs k = some v)
    (kk : ∀ H1, Same H H1 → Same B (upd H1 a (.dK (dropK kvs k))) → N σ (upd H1 a (.dK (dropK kvs k)))) : Run (tDrop (tDPop1 td ty)) σ B H R N := fun H1 e D q n =>
  hd H1 e _ fun y H2 e2 h2 => by
    cases h2
    refine ⟨a, rfl, .inl ⟨kvs, .inl ((e.trans e2) _ _ ha)⟩, hy H2 (e.trans e2) _ fun w H3 e3 h3 => ?_⟩
    cases h3
    have st := (e.trans e2).trans e3
    have sb := (s.trans st).mut (o := .dK (dropK kvs k)) hB
    exact ⟨kvs, k, v, st _ _ ha, rfl, hv, n _ _ sb (kk H3 st sb)⟩
/-- a new dict {} in a slot -/
theorem s_newK {i : Nat} (s : Same B H) (k : ∀ p H1, H p = none → Same H H1 → Same B H1 → B p = none → H1 p = some (.dK []) → Run u (σ.set i (some (.ref p))) B H1 R N) : Run (tSeq (tAsg tDNewK (gName i)) u) σ B H R N := fun H1 e D q n =>
  fun p hp => k p _ (e.free hp) (e.trans (Same.new hp)) ((s.trans e).trans (Same.new hp)) ((s.trans e).free hp) upd_same _ (Same.refl _) D q n
def noR : RR := fun _ _ => False
/-- for k, v in d.items() -/
theorem s_items {d : Addr} {kvs : List (Key × V)} {j1 j2 : Nat} {tb : TS} (s : Same B H) (hd : B d = some (.dK kvs)) (h : ∀ od, EvP tl σ (upd H d (.frz od (.dK kvs))) (isV (.ref d))) (Pv : Nat → L2.St → Hp → Prop)
    (h0 : ∀ od H1, Same (upd H d (.frz od (.dK kvs))) H1 → Pv 0 σ H1)
    (hs : ∀ od i k v σ' H', kvs[i]? = some (k, v) → Same (upd B d (.frz od (.dK kvs))) H' → Pv i σ' H' → Run tb ((σ'.set j1 (some (kV k))).set j2 (some v)) (upd B d (.frz od (.dK kvs))) H' noR (Pv (i + 1)))
    (hn : ∀ od σ' H', Same (upd B d (.frz od (.dK kvs))) H' → Same B (upd H' d (.dK kvs)) → Pv kvs.length σ' H' → N σ' (upd H' d (.dK kvs)))
    (mp : ∀ i σ' H' H2, Same H' H2 → Pv i σ' H' → Pv i σ' H2) :
    Run (tLock (tFor (iItems tl) (gTup K 2 (gCons (gName j1) (gCons (gName j2) gNil))) tb)) σ B H R N := fun H1 e D q n => by
  refine ⟨d, .dK kvs, (s.trans e) _ _ hd, by trivial, fun od => ?_⟩
  have up : ∀ {X Y : Hp} {o : HO}, Same X Y → Same (upd X d o) (upd Y d o) := fun {X Y o} s b w hb => by
    by_cases c : b = d
    · subst c; rw [upd_same] at hb ⊢; exact hb
    · rw [upd_ne c] at hb ⊢; exact s _ _ hb
  have sH : Same (upd H d (.frz od (.dK kvs))) (upd H1 d (.frz od (.dK kvs))) := up e
  have sB : Same (upd B d (.frz od (.dK kvs))) (upd H1 d (.frz od (.dK kvs))) := up (s.trans e)
  refine h od _ sH _ fun v H2 e2 hv => ⟨d, od, kvs, hv, (sB.trans e2) _ _ upd_same, ?_⟩
  refine for_it walk_items (fun i σ' H' => Same (upd B d (.frz od (.dK kvs))) H' ∧ Pv i σ' H') ⟨sB.trans e2, h0 od H2 (sH.trans e2)⟩ (fun i σ' H' _ p => p.1 _ _ upd_same) (fun i x σ' H' Hy hi p y => ?_) fun σ' H' p => ?_
  · obtain ⟨T, x1, y1, rfl, hT, rfl, g1, g2⟩ := y
    obtain ⟨⟨k1, v1⟩, hkv⟩ : ∃ kv, kvs[i]? = some kv := ⟨_, List.getElem?_eq_getElem hi⟩
    have g1 : Option.map (fun kv : Key × V => kV kv.1) kvs[i]? = some x1 := g1
    have g2 : Option.map Prod.snd kvs[i]? = some y1 := g2
    rw [hkv] at g1 g2
    cases g1; cases g2
    have sT : Same H' (upd H' T (.tup [kV k1, v1])) := Same.new hT
    exact ⟨T, [kV k1, v1], rfl, SqT.of upd_same, rfl, kV k1, [v1], rfl, v1, [], rfl, rfl, hs od i k1 v1 σ' _ hkv (p.1.trans sT) (mp i σ' _ _ sT p.2) _ (Same.refl _) _ (fun _ _ _ z => z.elim) fun σ2 H3 e3 hn => ⟨e3, hn⟩⟩
  · have sb : Same B (upd H' d (.dK kvs)) := fun b w hb => by
      by_cases c : b = d
      · subst c; rw [upd_same]; rw [hd] at hb; exact hb
      · rw [upd_ne c]; exact p.1 _ _ (by rw [upd_ne c]; exact hb)
    exact ⟨p.1 _ _ upd_same, n _ _ sb (hn od σ' H' p.1 sb p.2)⟩
/-- a for over a new list of values; the turns change just what stands at p, and what is newer -/
theorem s_forM {p : Addr} {vs : List V} {j : Nat} {tb : TS} (s : Same B H) (hp : B p = none) (h : EvP tl σ H (fun v H1 => isL vs v H1 ∧ v ≠ .ref p)) (Pv : Nat → L2.St → Hp → Prop) (h0 : ∀ H1, Same H H1 → Pv 0 σ H1)
    (hs : ∀ B' i x σ' H', vs[i]? = some x → Same B B' → Same (rm H p) B' → B' p = none → Same B' H' → Pv i σ' H' → Run tb (σ'.set j (some x)) B' H' R (Pv (i + 1)))
    (hd : ∀ σ' H', Same B H' → Same (rm H p) H' → Pv vs.length σ' H' → N σ' H') : Run (tFor (iList K tl) (gName j) tb) σ B H R N := fun H1 e D q n =>
  h H1 e _ fun v H2 e2 hv => by
    obtain ⟨⟨a, rfl, ha⟩, hne⟩ := hv
    have ap : a ≠ p := fun z => hne (by rw [z])
    have sB := rm_of ((s.trans e).trans e2) hp
    have sH : Same (rm H p) (rm H2 p) := fun b u hb => by
      unfold rm at hb ⊢
      split at hb
      · cases hb
      · rename_i c
        rw [if_neg c]; exact (e.trans e2) _ _ hb
    refine ⟨a, rfl, ⟨vs, SqL.of ha⟩, for_list (K := K) (a := a) (xs := vs) (fun i σ' H' => Same (rm H2 p) H' ∧ Pv i σ' H') ⟨rm_same, h0 H2 (e.trans e2)⟩
      (fun i σ' H' hi pp => SqL.of (pp.1 _ _ (rm_ne ha ap))) (fun i x σ' H' hi pp => hs (rm H2 p) i x σ' H' hi sB sH rm_at pp.1 pp.2 H' (Same.refl _) _ (fun v H3 e3 hv => q v H3 (sB.trans e3) hv) fun σ2 H3 e3 hn => ⟨e3, hn⟩) fun σ' H' pp => n σ' H' (sB.trans pp.1) (hd σ' H' (sB.trans pp.1) (sH.trans pp.1) pp.2)⟩
end
end Wk
end
/-! ### WLand2 -/
section
set_option Elab.async false
set_option linter.all false
set_option maxRecDepth 100000
set_option maxHeartbeats 2000000
namespace Wk
open PySem PySem.Spec PyProof.Rows L2
open LsGeo (Pt)
open LsRefs (Sheet)
open LsText (Bytes)
open LsLand (Feature Land)
def allG (L : Land) : Prop := ∀ f ∈ L, goodF f
section
variable {P : Program} {w : World} {K : PySem.W.Frag} {mg : Str → Option Value} {base : Heap} {A : Ad} {σ : L2.St} {H B : Hp} {ta tb te : TE} {R : RR}
def RDict (ps : List (Feature × Addr)) : RR := fun v H => ∃ q, v = .ref q ∧ H q = some (.dK (ps.map kvOf))
instance (ps : List (Feature × Addr)) : Mono (RDict ps) := ⟨fun e ⟨q, h1, h2⟩ => ⟨q, h1, e _ _ h2⟩⟩
def sp_features_on (K : PySem.W.Frag) (A : Ad) : Sp := pure fun vs H R => ∃ (d s : Addr) (L : Land) (c : Sheet) (ps : List (Feature × Addr)), vs = [.ref d, .ref s] ∧ H d = some (.dK (ps.map kvOf)) ∧ LandP A H ps L ∧ La.Ris L ∧ L.length ≤ 1000 ∧ allG L ∧ ShAt H s c ∧ c.length ≤ 6 ∧ R = RDict (ps.filter fun p => LsEdit.stands c p.1)
theorem kv_new {ps : List (Feature × Addr)} {i : Nat} {p : Feature × Addr} (nd : (ps.map fun p => p.1.number).Nodup) (h : ps[i]? = some p) (k : Feature × Addr → Bool) : valV (((ps.take i).filter k).map kvOf) (.inl (p.1.number : Int)) = none := by
  refine val_out fun q hq z => ?_
  obtain ⟨j, hj⟩ := List.mem_iff_getElem?.mp (List.mem_filter.mp hq).1
  rw [List.getElem?_take] at hj
  split at hj
  · rename_i c
    obtain ⟨i1, e1⟩ := List.getElem?_eq_some_iff.mp h
    obtain ⟨i2, e2⟩ := List.getElem?_eq_some_iff.mp hj
    have := (List.pairwise_iff_getElem.mp nd) j i (by rw [List.length_map]; omega) (by rw [List.length_map]; omega) c
    rw [List.getElem_map, List.getElem_map, e1, e2] at this
    exact this z
  · cases hj
theorem ok_features_on (T : Txt K mg A) (c_ground_of : C8.Cal P w K mg base 1 "ground_of" (sp_ground_of K A) []) (c_stands_on : C8.Cal P w K mg base 4 "stands_on" (sp_stands_on K A) []) {f : Addr} {fd : FuncData} (F : C8.Def K mg "features_on" s_features_on f fd) (bb : Binds K fd ["land", "sheet"] []) : C8.Cal P w K mg base 5 "features_on" (sp_features_on K A) [] := by
  refine C8.cal0 F bb .nil sc_features_on (fun vs H Q E h => ?_) (fun cdv Ar outer s H vs Q E hr h => ?_)
  · obtain ⟨R, ⟨d, s, L, c, ps, rfl, _⟩, _⟩ := h
    rfl
  · obtain ⟨R, ⟨d, s, L, c, ps, rfl, hd, hp, ris, hl, hg, hs, hc, rfl⟩, k⟩ := h
    refine ⟨_, (pss_cons (ps_set (i := 2) sc_features_on.nd rfl (Or.inl rfl) (C8.pe_c c_ground_of hr (by decide) rfl (pa_cons (pv 1) pa_nil))) (pss_cons (ps_set (i := 3) sc_features_on.nd rfl (Or.inl rfl) pe_dnewK) (pss_cons (ps_lock (ps_for PassesOwn.never rfl (pi_items (pv 0)) (pg_tup rfl (pgs_cons (pg_name (i := 4) sc_features_on.nd rfl (Or.inl rfl)) (pgs_cons (pg_name (i := 5) sc_features_on.nd rfl (Or.inl rfl)) pgs_nil))) (pss_one (ps_if (pt_val (C8.pe_c c_stands_on hr (by decide) rfl (pa_cons (pv 5) (pa_cons (pv 2) pa_nil)))) (pss_one (ps_dput (hu_of hr) (pv 3) (pv 4) (pv 5) rfl)) pss_nil)))) (pss_one (ps_ret (pv 3)))))), body (s_set (Ra := isB (Ge.ground c)) (e_callV (ea_v1 rfl) fun H1 e => ⟨s, c, rfl, hs.mono e, rfl⟩) fun v H1 s1 hv => Run.base s1 ?_) k⟩
    obtain ⟨g, rfl, hgr⟩ := hv
    have hgr : GAt H1 g (Ge.ground c) := hgr
    replace hd := s1 _ _ hd
    replace hp := hp.mono s1
    have pl := ps_len hp ris
    refine s_newK (Same.refl _) fun q H2 hq0 s2 sB2 hB hq => ?_
    have qd : q ≠ d := fun z => by rw [z, hd] at hB; cases hB
    have gd : g ≠ d := ne_of hgr hd (by intro z; cases z)
    refine s_seq (M := fun σ' H' => ∃ v4 v5, σ' = [some (.ref d), some (.ref s), some (.ref g), some (.ref q), v4, v5] ∧ H' q = some (.dK ((ps.filter fun p => LsEdit.stands c p.1).map kvOf))) (s_items (B := H1) s2 hd (fun od => ev_var rfl)
      (fun i σ' H' => ∃ v4 v5, σ' = [some (.ref d), some (.ref s), some (.ref g), some (.ref q), v4, v5] ∧ H' q = some (.dK (((ps.take i).filter fun p => LsEdit.stands c p.1).map kvOf))) (fun od H3 e => ⟨_, _, rfl, e _ _ (by rw [upd_ne qd]; exact hq)⟩) (fun od i kk v σ' H' hkv sb p => ?_) (fun od σ' H' sb sb2 p => ?_) fun i σ' H' H2 e p => ?_) fun σ' H3 s3 hM => ?_
    · obtain ⟨v4, v5, rfl, hqi⟩ := p
      rw [List.getElem?_map] at hkv
      obtain ⟨⟨f, fa⟩, hpi, e⟩ := Option.map_eq_some_iff.mp hkv
      cases e
      have hm := List.mem_of_getElem? hpi
      have hmL := (hp.2.2 f).mp ⟨fa, hm⟩
      have hf : FtAt A H' fa f := (((hp.1 _ hm).rm hd).mono rm_upd).mono sb
      have hgr' : GAt H' g (Ge.ground c) := sb _ _ (by rw [upd_ne gd]; exact hgr)
      have gf := hg f hmL
      have tk : (ps.take (i + 1)).filter (fun p => LsEdit.stands c p.1) = (ps.take i).filter (fun p => LsEdit.stands c p.1) ++ (if LsEdit.stands c f = true then [(f, fa)] else []) := by
        obtain ⟨hi, e⟩ := List.getElem?_eq_some_iff.mp hpi
        rw [← List.take_append_getElem hi, List.filter_append, e]
        congr 1
        by_cases k : LsEdit.stands c f = true
        · rw [if_pos k]; simp [k]
        · rw [if_neg k]; simp [k]
      rw [tk]
      refine s_if (b := LsEdit.stands c f) (et_B (e_callV (ea_v2 rfl rfl) fun H4 e => ⟨fa, g, f, Ge.ground c, rfl, hf.mono e, gf, hgr'.mono e, ground_bx, by rw [Ge.standsOn_sheet gf.sh hc]⟩)) (fun c1 => s_dputK (a := q) (k := .inl (f.number : Int)) (v := .ref fa) sb (by rw [upd_ne qd]; exact hB) hqi (ev_var rfl) (ev_var rfl) (ev_var rfl) ?_ fun H4 s4 sb4 => ⟨_, _, rfl, ?_⟩) fun c1 => s_nx fun H4 e => ⟨sb.trans e, _, _, rfl, ?_⟩
      · rw [List.length_map]
        have := List.length_filter_le (fun p : Feature × Addr => LsEdit.stands c p.1) (ps.take i)
        have := List.length_take_le i ps
        rw [List.length_take] at *
        omega
      · rw [upd_same, if_pos c1, putK_new _ (kv_new hp.2.1 hpi _), List.map_append]; rfl
      · rw [if_neg (by rw [c1]; decide), List.append_nil]
        exact e _ _ hqi
    · obtain ⟨v4, v5, rfl, hqi⟩ := p
      rw [List.length_map, List.take_length] at hqi
      exact ⟨_, _, rfl, by rw [upd_ne qd]; exact hqi⟩
    · obtain ⟨v4, v5, rfl, hqi⟩ := p
      exact ⟨_, _, rfl, e _ _ hqi⟩
    · obtain ⟨v4, v5, rfl, hqi⟩ := hM
      refine s_ret s3 ((ev_var rfl).imp fun v H4 e hv => ?_)
      cases hv
      exact ⟨q, rfl, e _ _ hqi⟩
def RCh (p : Nat × Nat) : RR := isT [.int p.1, .int p.2]
instance (p : Nat × Nat) : Mono (RCh p) := (inferInstance : Mono (isT _))
instance (p : Nat × Nat) : Stab (RCh p) := (inferInstance : Stab (isT _))
def sp_changes (K : PySem.W.Frag) (A : Ad) : Sp := pure fun vs H R => ∃ (a b : Addr) (L M : Land), vs = [.ref a, .ref b] ∧ LandAt A H a L ∧ LandAt A H b M ∧ La.Ris L ∧ La.Ris M ∧ L.length ≤ 1000 ∧ M.length ≤ 1000 ∧ R = RLst RCh (LsEdit.changed L M)
theorem alike_eq {f g : Feature} (h : f.number = g.number) : alikeP f g = decide (f = g) := by
  unfold alikeP
  rw [decide_eq_decide]
  cases f; cases g
  simp only [Feature.mk.injEq] at h ⊢
  constructor
  · rintro ⟨h1, h2, h3⟩; exact ⟨h, h1, h2, h3⟩
  · rintro ⟨_, h1, h2, h3⟩; exact ⟨h1, h2, h3⟩
theorem e_union {L M : Land} (ha : EvP ta σ H (RLand A L)) (hb : EvP tb σ H (RLand A M)) (r1 : La.Ris L) (r2 : La.Ris M) (l1 : L.length ≤ 1000) (l2 : M.length ≤ 1000) : EvP (tSortedU w ta tb) σ H (isF H ((La.nums L M).map fun (n : Nat) => V.int n)) := fun H1 e Q q =>
  ha H1 e _ fun x H2 e2 hx => by
    obtain ⟨a, rfl, ps, h1, h2⟩ := hx
    refine ⟨a, ps.map kvOf, ps.map fun p => (p.1.number : Int), rfl, .inl h1, by rw [List.map_map, List.map_map]; rfl, by rw [List.length_map, ps_len h2 r1]; exact l1, fun p1 n1 hp1 hn1 => ?_⟩
    have s1 : Same H2 (upd H2 p1 (SetO w p1 (fun k => decide (k ∈ ps.map fun p => (p.1.number : Int))) n1)) := Same.new hp1
    refine hb _ (e.trans (e2.trans s1)) _ fun y H3 e3 hy => ?_
    obtain ⟨b, rfl, qs, h3, h4⟩ := hy
    refine ⟨b, qs.map kvOf, qs.map fun p => (p.1.number : Int), rfl, .inl h3, by rw [List.map_map, List.map_map]; rfl, by rw [List.length_map, ps_len h4 r2]; exact l2, fun p2 n2 hp2 hn2 => ?_⟩
    have s2 : Same H3 (upd H3 p2 (SetO w p2 (fun k => decide (k ∈ qs.map fun p => (p.1.number : Int))) n2)) := Same.new hp2
    have t1 := e3 _ _ (upd_same (H := H2) (a := p1))
    refine ⟨p1, p2, _, _, n1, n2, rfl, rfl, ne_of_none t1 hp2, s2 _ _ t1, upd_same, ?_, fun p3 m hp3 => ?_⟩
    · rw [List.length_map, ps_len h2 r1] at hn1
      rw [List.length_map, ps_len h4 r2] at hn2
      omega
    refine ⟨p3, _, m, rfl, upd_same, fun ns p hs hm hp => ?_⟩
    have s34 := (s2.trans (Same.new hp3)).trans (Same.new (o := .lst (ns.map V.int)) hp)
    refine q _ _ (((e2.trans s1).trans e3).trans s34) ⟨p, rfl, ?_, ((((e.trans e2).trans s1).trans e3).trans (s2.trans (Same.new hp3))).free hp⟩
    rw [upd_same]
    have key : ns = (La.nums L M).map fun (n : Nat) => (n : Int) := by
      obtain ⟨n1, n2⟩ := La.nums_ok r1 r2
      refine La.sortedI_eq hs (List.pairwise_map.mpr (n1.imp fun h => by omega)) fun k => ?_
      rw [hm]
      simp only [Bool.or_eq_true, decide_eq_true_eq]
      rw [List.mem_map, List.mem_map, List.mem_map]
      constructor
      · rintro (⟨p, hp, rfl⟩ | ⟨p, hp, rfl⟩)
        · exact ⟨p.1.number, (n2 _).mpr (.inl (La.find_isSome.mpr ⟨p.1, (h2.2.2 p.1).mp ⟨p.2, hp⟩, rfl⟩)), rfl⟩
        · exact ⟨p.1.number, (n2 _).mpr (.inr (La.find_isSome.mpr ⟨p.1, (h4.2.2 p.1).mp ⟨p.2, hp⟩, rfl⟩)), rfl⟩
      · rintro ⟨n, hn, rfl⟩
        rcases (n2 n).mp hn with h | h
        · obtain ⟨f, hf, rfl⟩ := La.find_isSome.mp h
          obtain ⟨c, hc⟩ := (h2.2.2 f).mpr hf
          exact .inl ⟨(f, c), hc, rfl⟩
        · obtain ⟨f, hf, rfl⟩ := La.find_isSome.mp h
          obtain ⟨c, hc⟩ := (h4.2.2 f).mpr hf
          exact .inr ⟨(f, c), hc, rfl⟩
    rw [key, List.map_map]; rfl
theorem take_fm {α β : Type} {g : α → Option β} {l : List α} {i : Nat} {x : α} (h : l[i]? = some x) : (l.take (i + 1)).filterMap g = (l.take i).filterMap g ++ (g x).toList := by
  obtain ⟨hi, e⟩ := List.getElem?_eq_some_iff.mp h
  rw [← List.take_append_getElem hi, List.filterMap_append, e]
  cases h2 : g x <;> simp [h2]
theorem ok_changes (T : Txt K mg A) (c_alike : C8.Cal P w K mg base 1 "alike" (sp_alike K A) []) {f : Addr} {fd : FuncData} (F : C8.Def K mg "changes" s_changes f fd) (bb : Binds K fd ["before", "after"] []) : C8.Cal P w K mg base 2 "changes" (sp_changes K A) [] := by
  refine C8.cal0 F bb .nil sc_changes (fun vs H Q E h => ?_) (fun cdv Ar outer s H vs Q E hr h => ?_)
  · obtain ⟨R, ⟨a, b, L, M, rfl, _⟩, _⟩ := h
    rfl
  · obtain ⟨R, ⟨a, b, L, M, rfl, hL, hM, r1, r2, l1, l2, rfl⟩, k⟩ := h
    obtain ⟨n1, n2⟩ := La.nums_ok r1 r2
    have nl := La.nums_len L M
    rw [La.changed_eq r1 r2 n1 n2] at k
    have vL : ∀ {i : Nat} {σ : L2.St} {H' : Hp}, Same H H' → σ[i]? = some (some (.ref a)) → EvP (tVar i) σ H' (RLand A L) := fun e h => (ev_var h).imp fun v H2 s q => by cases q; exact ⟨a, rfl, (hL.mono e).mono s⟩
    have vM : ∀ {i : Nat} {σ : L2.St} {H' : Hp}, Same H H' → σ[i]? = some (some (.ref b)) → EvP (tVar i) σ H' (RLand A M) := fun e h => (ev_var h).imp fun v H2 s q => by cases q; exact ⟨b, rfl, (hM.mono e).mono s⟩
    refine ⟨_, (pss_cons (ps_set (i := 2) sc_changes.nd rfl (Or.inl rfl) (pe_lst pa_nil)) (pss_cons (ps_for PassesOwn.never rfl (pi_list (pe_sortedUnion rfl hr.units T.sorted T.set (pv 0) (pv 1))) (pg_name (i := 3) sc_changes.nd rfl (Or.inl rfl)) (pss_one (ps_if (pt_cmp (pc_dnotin (hu_of hr) (pv 3) (pv 0))) (pss_one (ps_expr (pe_bm PySem.F.plainAttrs_list PySem.F.slot_list_append PySem.F.type_list_append mt_append (pv 2) (pa_cons (pe_tup (pa_cons (pv 3) (pa_cons (C8.pe_gc rfl T.g_NEW) pa_nil))) pa_nil)))) (pss_one (ps_if (pt_cmp (pc_dnotin (hu_of hr) (pv 3) (pv 1))) (pss_one (ps_expr (pe_bm PySem.F.plainAttrs_list PySem.F.slot_list_append PySem.F.type_list_append mt_append (pv 2) (pa_cons (pe_tup (pa_cons (pv 3) (pa_cons (C8.pe_gc rfl T.g_GONE) pa_nil))) pa_nil)))) (pss_one (ps_if (pt_not (pt_val (C8.pe_c c_alike hr (by decide) rfl (pa_cons (pe_dget (hu_of hr) (pv 0) (pv 3) (fun _ _ => rfl)) (pa_cons (pe_dget (hu_of hr) (pv 1) (pv 3) (fun _ _ => rfl)) pa_nil))))) (pss_one (ps_expr (pe_bm PySem.F.plainAttrs_list PySem.F.slot_list_append PySem.F.type_list_append mt_append (pv 2) (pa_cons (pe_tup (pa_cons (pv 3) (pa_cons (C8.pe_gc rfl T.g_ANOTHER) pa_nil))) pa_nil)))) pss_nil))))))) (pss_one (ps_ret (pv 2))))), body (s_newL (Same.refl _) fun p H1 hp0 s1 sB1 hB hp => ?_) k⟩
    refine s_seq (M := fun σ' H' => ∃ v3, σ' = [some (.ref a), some (.ref b), some (.ref p), v3] ∧ LstAt RCh H' p ((La.nums L M).filterMap (La.chg L M))) (s_forM (p := p) (vs := (La.nums L M).map fun (n : Nat) => V.int n) s1 hB ((e_union (vL s1 rfl) (vM s1 rfl) r1 r2 l1 l2).imp fun v H2 e hv => ?_)
      (fun i σ' H' => ∃ v3, σ' = [some (.ref a), some (.ref b), some (.ref p), v3] ∧ LstAt RCh H' p (((La.nums L M).take i).filterMap (La.chg L M))) (fun H2 e => ⟨_, rfl, [], e _ _ hp, .nil⟩) (fun B' i x σ' H' hx sB srm hBp s' q => ?_) fun σ' H' sB srm q => ?_) fun σ' H' s' hM => ?_
    · obtain ⟨c, rfl, h1, h2⟩ := hv
      exact ⟨⟨c, rfl, h1⟩, fun z => by cases z; rw [hp] at h2; cases h2⟩
    · obtain ⟨v3, rfl, acc, hacc, hpr⟩ := q
      rw [List.getElem?_map] at hx
      obtain ⟨n, hn, rfl⟩ := Option.map_eq_some_iff.mp hx
      have lacc : acc.length < 16000000 := by
        have h1 := hpr.len
        have h2 := List.length_filterMap_le (La.chg L M) ((La.nums L M).take i)
        have h3 : ((La.nums L M).take i).length ≤ 2000 := Nat.le_trans (List.length_take_le' _ _) (by omega)
        omega
      have sH := sB.trans s'
      rw [take_fm hn]
      have app : ∀ (m : Nat) (N : L2.St → Hp → Prop) (hd : La.chg L M n = some (n, m)) {te : TE} {R : RR}, (∀ H1, Same H' H1 → EvP te [some (V.ref a), some (V.ref b), some (V.ref p), some (V.int n)] H1 (isV (.int m))) → Run (tDrop (tBM K "list" rAppend (tVar 2) (tCons (tTup (tCons (tVar 3) (tCons te tNil))) tNil))) [some (V.ref a), some (V.ref b), some (V.ref p), some (V.int n)] B' H' R (fun σ' H' => ∃ v3, σ' = [some (.ref a), some (.ref b), some (.ref p), v3] ∧ LstAt RCh H' p (((La.nums L M).take i).filterMap (La.chg L M) ++ (La.chg L M n).toList)) := fun m N hd {te R} ht => by
        refine s_appN (Ra := RCh (n, m)) s' hBp hacc (ev_var rfl) ((e_tup (ea_cons (ev_var rfl) (ea_cons (ht H' (Same.refl _)) ea_nil)) (by show 2 ≤ 1000000; decide)).imp fun v H2 _ h => h) lacc fun v H2 s2 hv sb => ⟨_, rfl, acc ++ [v], upd_same, ?_⟩
        rw [hd]
        have hD := s2 _ _ hacc
        exact (hpr.monoP fun v x q => (inferInstance : Stab (RCh x)).stab hD ((inferInstance : Mono (RCh x)).mono s2 q)).app (.cons ((inferInstance : Stab (RCh (n, m))).stab hD hv) .nil)
      refine s_if (et_B (e_dnotin (n := n) (ev_var rfl) (vL sH rfl) r1)) (fun c1 => ?_) fun c1 => s_if (et_B (e_dnotin (n := n) (ev_var rfl) (vM sH rfl) r2)) (fun c2 => ?_) fun c2 => ?_
      · have f1 : LsLand.find L n = none := by
          cases h : LsLand.find L n with
          | none => rfl
          | some f => rw [h] at c1; cases c1
        have f2 : (LsLand.find M n).isSome = true := by
          rcases (n2 n).mp (List.mem_of_getElem? hn) with h | h
          · rw [f1] at h; cases h
          · exact h
        obtain ⟨g, hg⟩ := Option.isSome_iff_exists.mp f2
        exact app 1 (fun _ _ => True) (by unfold La.chg; rw [f1, hg]) fun H1 _ => ev_c
      · obtain ⟨f, hf⟩ := Option.isSome_iff_exists.mp (show (LsLand.find L n).isSome = true by simpa using c1)
        have f2 : LsLand.find M n = none := by
          cases h : LsLand.find M n with
          | none => rfl
          | some f => rw [h] at c2; cases c2
        exact app 3 (fun _ _ => True) (by unfold La.chg; rw [hf, f2]) fun H1 _ => ev_c
      · obtain ⟨f, hf⟩ := Option.isSome_iff_exists.mp (show (LsLand.find L n).isSome = true by simpa using c1)
        obtain ⟨g, hg⟩ := Option.isSome_iff_exists.mp (show (LsLand.find M n).isSome = true by simpa using c2)
        have e1 := ((La.find_some r1).mp hf).2
        have e2 := ((La.find_some r2).mp hg).2
        refine s_if (b := !decide (f = g)) (et_not (et_B (e_call (ea_consG (R := RFt A f) (e_dget (vL sH rfl) (ev_var rfl) r1 hf) fun H1 s => ea_consG (R := RFt A g) (e_dget (vM (sH.trans s) rfl) (ev_var rfl) r2 hg) fun _ _ => ea_nil) fun vs H1 e hv => ?_))) (fun c3 => ?_) fun c3 => s_nx fun H4 e => ⟨s'.trans e, _, rfl, ?_⟩
        · obtain ⟨v, r, rfl, ⟨fa, rfl, hfa⟩, v2, r2, rfl, ⟨ga, rfl, hga⟩, hr⟩ := hv
          cases hr
          exact ⟨fa, ga, f, g, rfl, hfa, hga, by rw [alike_eq (by omega)]⟩
        · have ne : ¬ f = g := by simpa using c3
          exact app 2 (fun _ _ => True) (by unfold La.chg; rw [hf, hg]; simp only; rw [if_neg ne]) fun H1 _ => ev_c
        · have eq : f = g := by simpa using c3
          have : La.chg L M n = none := by unfold La.chg; rw [hf, hg]; simp only; rw [if_pos eq]
          rw [this]
          show LstAt RCh H4 p (_ ++ [])
          rw [List.append_nil]
          exact ⟨acc, e _ _ hacc, hpr.monoP fun v x q => (inferInstance : Mono (RCh x)).mono e q⟩
    · obtain ⟨v3, rfl, hq⟩ := q
      rw [List.length_map, List.take_length] at hq
      exact ⟨_, rfl, hq⟩
    · obtain ⟨v3, rfl, hq⟩ := hM
      exact s_ret s' ((ev_var rfl).imp fun v H2 e h => by cases h; exact ⟨p, rfl, hq.mono e⟩)
def sp_sheet_text (K : PySem.W.Frag) (A : Ad) : Sp := pure fun vs H R => ∃ (s d : Addr) (c : Sheet) (k day : Nat) (L : Land), vs = [.ref s, .int k, .int day, .ref d] ∧ ShAt H s c ∧ okSh c ∧ k < 1000000 ∧ day < 1000000 ∧ LandAt A H d L ∧ La.Ris L ∧ L.length ≤ 1000 ∧ allG L ∧ R = RLst RI (nb (LsEdit.sheetText c k day L))
def sheetHead (c : Sheet) (k d : Nat) : Bytes := LsText.ascii "sheet " ++ (LsRefs.codeText c ++ (LsText.ascii " edition " ++ (LsText.digits k ++ (LsText.ascii " day " ++ (LsText.digits d ++ [59, 10])))))
theorem sheetText_eq (c : Sheet) (k d : Nat) (L : Land) : LsEdit.sheetText c k d L = sheetHead c k d ++ L.flatMap LsBook.featureText := by
  unfold LsEdit.sheetText sheetHead
  simp
theorem sheetHead_len {c : Sheet} {k d : Nat} (hc : okSh c) (hk : k < 1000000) (hd : d < 1000000) : (sheetHead c k d).length ≤ 100 := by
  have a := Tx.digits_len (n := k) (k := 6) (by decide) (by omega)
  have b := Tx.digits_len (n := d) (k := 6) (by decide) (by omega)
  have c1 : (LsText.ascii "sheet ").length = 6 := by decide +kernel
  have c2 : (LsText.ascii " edition ").length = 9 := by decide +kernel
  have c3 : (LsText.ascii " day ").length = 5 := by decide +kernel
  have c4 := hc.1
  unfold sheetHead
  simp only [List.length_append, c1, c2, c3, Tx.codeText_len, List.length_cons, List.length_nil]; omega
theorem flat_len {L : Land} (h : allG L) : (L.flatMap LsBook.featureText).length ≤ 1300 * L.length := by
  induction L with
  | nil => simp
  | cons f r ih =>
    have := featureText_len (h f (List.mem_cons_self ..))
    have := ih fun g hg => h g (List.mem_cons_of_mem _ hg)
    rw [List.flatMap_cons, List.length_append, List.length_cons, Nat.mul_succ]; omega
theorem ok_sheet_text (T : Txt K mg A) (c_bytes_of : C8.Cal P w K mg base 1 "bytes_of" (sp_bytes_of K A) []) (c_code_bytes : C8.Cal P w K mg base 1 "code_bytes" (sp_code_bytes K A) []) (c_feature_line : C8.Cal P w K mg base 2 "feature_line" (sp_feature_line K A) []) {f : Addr} {fd : FuncData} (F : C8.Def K mg "sheet_text" s_sheet_text f fd) (bb : Binds K fd ["sheet", "edition", "day", "features"] []) : C8.Cal P w K mg base 3 "sheet_text" (sp_sheet_text K A) [] := by
  refine C8.cal0 F bb .nil sc_sheet_text (fun vs H Q E h => ?_) (fun cdv Ar outer s H vs Q E hr h => ?_)
  · obtain ⟨R, ⟨s, d, c, n, day, L, rfl, _⟩, _⟩ := h
    rfl
  · obtain ⟨R, ⟨s, d, c, n, day, L, rfl, hs, hc, hn, hday, hL, ris, hl, hg, rfl⟩, k⟩ := h
    have a := Tx.digits_len (n := n) (k := 6) (by decide) (by omega)
    have b := Tx.digits_len (n := day) (k := 6) (by decide) (by omega)
    have c1 : (LsText.ascii "sheet ").length = 6 := by decide +kernel
    have c2 : (LsText.ascii " edition ").length = 9 := by decide +kernel
    have c3 : (LsText.ascii " day ").length = 5 := by decide +kernel
    have c4 := hc.1
    have hh := sheetHead_len hc hn hday
    have fl := flat_len hg
    rw [sheetText_eq] at k
    have vL : ∀ {i : Nat} {σ : L2.St} {H' : Hp}, Same H H' → σ[i]? = some (some (.ref d)) → EvP (tVar i) σ H' (RLand A L) := fun e h => (ev_var h).imp fun v H2 s q => by cases q; exact ⟨d, rfl, (hL.mono e).mono s⟩
    have bo : ∀ {te : TE} {σ : L2.St} {H : Hp} {b : Bytes} {E : XK}, EvP te σ H (isV (.str (ny b))) → b.length ≤ 1000000 → EvP (tCall (sp_bytes_of K A) [] E (tCons te tNil)) σ H (RLst RI (nb b)) := fun h hl => e_callV (ea_cons h ea_nil) fun H1 e => ⟨_, rfl, hl, rfl⟩
    refine ⟨_, (pss_cons (ps_set (i := 4) sc_sheet_text.nd rfl (Or.inl rfl) (pe_op op_cat (pe_op op_cat (C8.pe_c c_bytes_of hr (by decide) rfl (pa_cons pe_str pa_nil)) (C8.pe_c c_code_bytes hr (by decide) rfl (pa_cons (pv 0) pa_nil))) (C8.pe_c c_bytes_of hr (by decide) rfl (pa_cons (pe_joined (.cons pe_str (.cons (pe_fmt (pv 1)) (.cons pe_str (.cons (pe_fmt (pv 2)) (.cons pe_str .nil)))))) pa_nil)))) (pss_cons (ps_for PassesOwn.never rfl (pi_list (pe_callB (cr_sortedDI rfl) (by rfl) T.sorted (by decide +kernel) (pa_cons (pv 3) pa_nil))) (pg_name (i := 5) sc_sheet_text.nd rfl (Or.inl rfl)) (pss_one (ps_expr (pe_bm PySem.F.plainAttrs_list PySem.F.slot_list_extend PySem.F.type_list_extend mt_extend (pv 4) (pa_cons (C8.pe_c c_feature_line hr (by decide) rfl (pa_cons (pv 5) (pa_cons (pe_dget (hu_of hr) (pv 3) (pv 5) (fun _ _ => rfl)) pa_nil))) pa_nil))))) (pss_one (ps_ret (pv 4))))), body (s_set (Ra := isF H ((nb (sheetHead c n day)).map V.int)) ((e_catF (xs := (nb (LsText.ascii "sheet ") ++ nb (LsRefs.codeText c)).map V.int) (ys := (nb (LsText.ascii " edition " ++ LsText.digits n ++ LsText.ascii " day " ++ LsText.digits day ++ [59, 10])).map V.int) (e_cat (bo (e_lit (by decide +kernel)) (by rw [c1]; decide)) (fun H1 e => e_callV (ea_v1 rfl) fun H2 e2 => ⟨s, c, rfl, (hs.mono e).mono e2, hc, rfl⟩) ?_) (fun v H1 h => ints_isL.mpr h) (fun H1 e => (bo (e_js ?_) ?_).imp fun v H2 _ h => ints_isL.mpr h) ?_).imp fun v H1 _ h => ?_) fun v H1 s1 hv => ?_) k⟩
    · rw [nb_len, nb_len, Tx.codeText_len]; omega
    · refine j_cons (e_lit (b := LsText.ascii " edition ") (by decide +kernel)) (by simp; omega) (j_cons (e_fmtN (n := n) (ev_var rfl) (by omega)) (by simp; omega) (j_cons (e_lit (b := LsText.ascii " day ") (by decide +kernel)) (by simp; omega) (j_cons (e_fmtN (n := day) (ev_var rfl) (by omega)) (by simp; omega) (j_cons (e_lit (b := [59, 10]) (by decide +kernel)) (by simp; omega) ?_))))
      rw [List.nil_append]; exact j_nil
    · simp only [List.length_append, c2, c3, List.length_cons, List.length_nil]; omega
    · rw [List.length_map, List.length_map, List.length_append, nb_len, nb_len, nb_len, Tx.codeText_len]
      simp only [List.length_append, c1, c2, c3, List.length_cons, List.length_nil]; omega
    · have e : (nb (LsText.ascii "sheet ") ++ nb (LsRefs.codeText c)).map V.int ++ (nb (LsText.ascii " edition " ++ LsText.digits n ++ LsText.ascii " day " ++ LsText.digits day ++ [59, 10])).map V.int = (nb (sheetHead c n day)).map V.int := by
        unfold sheetHead
        rw [← nb_app, ← List.map_append, ← nb_app]
        simp only [List.append_assoc]
      rw [e] at h; exact h
    · obtain ⟨p, rfl, hp, hB⟩ := hv
      refine s_seq (M := fun σ' H' => ∃ v5, σ' = [some (.ref s), some (.int n), some (.int day), some (.ref d), some (.ref p), v5] ∧ LstAt RI H' p (nb (sheetHead c n day ++ L.flatMap LsBook.featureText))) (s_forM (p := p) (vs := (L.map fun f => (f.number : Int)).map V.int) s1 hB ((e_sortedD (vL s1 rfl) ris).imp fun v H2 e hv => ?_)
        (fun i σ' H' => ∃ v5, σ' = [some (.ref s), some (.int n), some (.int day), some (.ref d), some (.ref p), v5] ∧ LstAt RI H' p (nb (sheetHead c n day ++ (L.take i).flatMap LsBook.featureText))) (fun H2 e => ⟨_, rfl, ints_iff.mpr ?_⟩) (fun B' i x σ' H' hx sB srm hBp s' q => ?_) fun σ' H' sB srm q => ?_) fun σ' H' s' hM => ?_
      · obtain ⟨c, rfl, h1, h2⟩ := hv
        exact ⟨⟨c, rfl, h1⟩, fun z => by cases z; rw [hp] at h2; cases h2⟩
      · have := e _ _ hp
        simpa using this
      · obtain ⟨v5, rfl, hq⟩ := q
        rw [ints_iff] at hq
        rw [List.getElem?_map, List.getElem?_map] at hx
        obtain ⟨z, hz, rfl⟩ := Option.map_eq_some_iff.mp hx
        obtain ⟨f, hf, rfl⟩ := Option.map_eq_some_iff.mp hz
        have hm := List.mem_of_getElem? hf
        have sH := sB.trans s'
        have tkl : ((L.take i).flatMap LsBook.featureText).length ≤ 1300000 := by
          have h1 := flat_len (L := L.take i) fun g hg2 => hg g (List.mem_of_mem_take hg2)
          have h2 : (L.take i).length ≤ 1000 := Nat.le_trans (List.length_take_le' _ _) hl
          omega
        have fl1 := featureText_len (hg f hm)
        refine s_extN (F := RI) (ys := nb (LsBook.featureText f)) s' hBp hq (ev_var rfl) (e_call (ea_cons_var (i := 5) (x := .int f.number) rfl (ea_consG (R := RFt A f) (e_dget (n := f.number) (vL sH rfl) (ev_var rfl) ris ((La.find_some ris).mpr ⟨hm, rfl⟩)) fun _ _ => ea_nil)) fun vs H2 e hv => ?_) ?_ fun vs H2 s2 hvs sb => ⟨_, rfl, ?_⟩
        · obtain ⟨r, rfl, v2, r2, rfl, ⟨fa, rfl, hfa⟩, hr⟩ := hv
          cases hr
          exact ⟨fa, f, rfl, hfa, hg f hm, rfl⟩
        · rw [List.length_map, nb_len, nb_len, List.length_append]; omega
        · rw [vals_map (g := V.int) hvs, ints_iff, upd_same, take_flat hf]
          rw [← List.map_append, ← nb_app, List.append_assoc]
      · obtain ⟨v5, rfl, hq⟩ := q
        rw [List.length_map, List.length_map, List.take_length] at hq
        exact ⟨_, rfl, hq⟩
      · obtain ⟨v5, rfl, hq⟩ := hM
        exact s_ret s' ((ev_var rfl).imp fun v H2 e h => by cases h; exact ⟨p, rfl, hq.mono e⟩)
end
end Wk
end
/-! ### WLog -/
section
set_option Elab.async false
set_option linter.all false
set_option maxRecDepth 100000
set_option maxHeartbeats 2000000
namespace Wk
open PySem PySem.Spec PyProof.Rows L2
open LsGeo (Pt)
open LsRefs (Sheet)
open LsText (Bytes)
open LsLand (Feature Land)
open LsEdit (Log What)
abbrev Ey := LsEdit.Entry
/-! logs: plain -/
def landFrom (L : Land) (l : Log) : Land := l.foldl LsEdit.turn L
theorem landFrom_snoc {L : Land} {l : Log} {i : Nat} {e : Ey} (h : l[i]? = some e) : landFrom L (l.take (i + 1)) = LsEdit.turn (landFrom L (l.take i)) e := by
  obtain ⟨hi, e1⟩ := List.getElem?_eq_some_iff.mp h
  unfold landFrom
  rw [← List.take_append_getElem hi, List.foldl_append, e1]; rfl
def okE (L : Land) (e : Ey) : Prop := match e.what with
  | .put f => goodF f
  | .out n => 1 ≤ n ∧ n ≤ 9999 ∧ (LsLand.find L n).isSome = true
  | .issue c => okSh c
structure GoodL (l : Log) : Prop where
  len : l.length ≤ 400
  days : ∀ e ∈ l, e.day ≤ 99999
  srt : l.Pairwise fun a b => a.day ≤ b.day
  ok : ∀ (i : Nat) (e : Ey), l[i]? = some e → okE (landFrom [] (l.take i)) e
  sz : ∀ i, (landFrom [] (l.take i)).length ≤ 200
theorem GoodL.nil : GoodL [] := ⟨by simp, by simp, .nil, fun i e h => by simp at h, fun i => by simp [landFrom]⟩
theorem GoodL.take {l : Log} (g : GoodL l) (k : Nat) : GoodL (l.take k) := by
  refine ⟨Nat.le_trans (List.length_take_le' _ _) g.len, fun e h => g.days e (List.mem_of_mem_take h), List.Pairwise.sublist (List.take_sublist _ _) g.srt, fun i e h => ?_, fun i => ?_⟩
  · rw [List.getElem?_take] at h
    split at h
    · rename_i c
      rw [List.take_take, Nat.min_eq_left (by omega)]
      exact g.ok i e h
    · cases h
  · rw [List.take_take]; exact g.sz _
theorem GoodL.app {l : Log} (g : GoodL l) {e : Ey} (h1 : l.length < 400) (h2 : e.day ≤ 99999) (h3 : LsEdit.lastDay l ≤ e.day) (h4 : okE (landFrom [] l) e) (h5 : (LsEdit.turn (landFrom [] l) e).length ≤ 200) : GoodL (l ++ [e]) := by
  refine ⟨by simp; omega, fun x hx => ?_, ?_, fun i x hx => ?_, fun i => ?_⟩
  · rcases List.mem_append.mp hx with hx | hx
    · exact g.days x hx
    · rw [List.mem_singleton] at hx; subst hx; exact h2
  · rw [List.pairwise_append]
    refine ⟨g.srt, by simp, fun a ha b hb => ?_⟩
    rw [List.mem_singleton] at hb; subst hb
    refine Nat.le_trans ?_ h3
    obtain ⟨i, hi⟩ := List.mem_iff_getElem?.mp ha
    obtain ⟨i1, e1⟩ := List.getElem?_eq_some_iff.mp hi
    unfold LsEdit.lastDay
    rw [List.getLast?_eq_getElem?, List.getElem?_eq_getElem (by omega)]
    show a.day ≤ (l[l.length - 1]'(by omega)).day
    by_cases c : i = l.length - 1
    · subst c; rw [e1]; exact Nat.le_refl _
    · have := (List.pairwise_iff_getElem.mp g.srt) i (l.length - 1) i1 (by omega) (by omega)
      rw [e1] at this; exact this
  · by_cases c : i < l.length
    · rw [List.getElem?_append_left c] at hx
      rw [List.take_append_of_le_length (by omega)]
      exact g.ok i x hx
    · rw [List.getElem?_append_right (by omega)] at hx
      have : i - l.length = 0 := by
        obtain ⟨h, _⟩ := List.getElem?_eq_some_iff.mp hx
        simp at h; omega
      rw [this] at hx
      cases hx
      have e2 : (l ++ [e]).take i = l := by
        have : i = l.length := by omega
        subst this; simp
      rw [e2]; exact h4
  · by_cases c : i ≤ l.length
    · rw [List.take_append_of_le_length c]; exact g.sz i
    · rw [List.take_of_length_le (by simp; omega)]
      unfold landFrom
      rw [List.foldl_append]
      exact h5
theorem ris_turn {L : Land} {e : Ey} (h : La.Ris L) : La.Ris (LsEdit.turn L e) := by
  unfold LsEdit.turn
  cases e.what with
  | put f => exact La.ris_put h
  | out n => exact La.ris_out h
  | issue c => exact h
theorem ris_from {l : Log} : ∀ {L : Land}, La.Ris L → La.Ris (landFrom L l) := by
  induction l with
  | nil => intro L h; exact h
  | cons e r ih => intro L h; exact ih (ris_turn h)
theorem ris_land (l : Log) : La.Ris (landFrom [] l) := ris_from List.Pairwise.nil
theorem GoodL.allG {l : Log} (g : GoodL l) : ∀ i, allG (landFrom [] (l.take i))
  | 0 => by simp [landFrom, Wk.allG]
  | i + 1 => by
    by_cases c : i < l.length
    · have gi := List.getElem?_eq_getElem c
      rw [landFrom_snoc gi]
      have ih := GoodL.allG g i
      have ok := g.ok i _ gi
      unfold okE at ok
      unfold LsEdit.turn
      intro f hf
      cases hw : (l[i]).what with
      | put h =>
        rw [hw] at ok hf
        rcases (La.mem_put (ris_land _)).mp hf with rfl | ⟨m, _⟩
        · exact ok
        · exact ih f m
      | out n => rw [hw] at hf; exact ih f (La.mem_out.mp hf).1
      | issue c => rw [hw] at hf; exact ih f hf
    · rw [List.take_of_length_le (by omega)]
      have := GoodL.allG g i
      rw [List.take_of_length_le (by omega)] at this
      exact this
theorem GoodL.all {l : Log} (g : GoodL l) : Wk.allG (landFrom [] l) := by have := g.allG l.length; rwa [List.take_length] at this
theorem GoodL.size {l : Log} (g : GoodL l) : (landFrom [] l).length ≤ 200 := by have := g.sz l.length; rwa [List.take_length] at this
theorem filter_take {α : Type} {p : α → Bool} : ∀ {l : List α}, l.Pairwise (fun a b => p b = true → p a = true) → ∃ k, l.filter p = l.take k
  | [], _ => ⟨0, rfl⟩
  | a :: r, h => by
    obtain ⟨h1, h2⟩ := List.pairwise_cons.mp h
    obtain ⟨k, hk⟩ := filter_take h2
    by_cases c : p a = true
    · exact ⟨k + 1, by rw [List.filter_cons, if_pos c, hk]; rfl⟩
    · refine ⟨0, ?_⟩
      rw [List.filter_cons, if_neg c]
      show r.filter p = []
      rw [List.filter_eq_nil_iff]
      intro b hb z
      exact c (h1 b hb z)
theorem upTo_take {l : Log} (h : l.Pairwise fun a b => a.day ≤ b.day) (d : Nat) : ∃ k, LsEdit.upTo l d = l.take k :=
  filter_take (h.imp fun h z => decide_eq_true (Nat.le_trans h (of_decide_eq_true z)))
theorem upTo_all {l : Log} (g : GoodL l) : LsEdit.upTo l 99999 = l := List.filter_eq_self.mpr fun e h => decide_eq_true (g.days e h)
theorem GoodL.upTo {l : Log} (g : GoodL l) (d : Nat) : GoodL (LsEdit.upTo l d) := by
  obtain ⟨k, e⟩ := upTo_take g.srt d
  rw [e]; exact g.take k
theorem eds_mem {c : Sheet} {x : LsEdit.Edition} : ∀ {l : Log} {L : Land}, x ∈ LsEdit.editionsFrom c L l → ∃ (i : Nat) (e : Ey), l[i]? = some e ∧ e.what = .issue c ∧ x.day = e.day ∧ x.land = LsEdit.onSheet (landFrom L (l.take i)) c
  | [], L, h => by simp [LsEdit.editionsFrom] at h
  | e :: r, L, h => by
    unfold LsEdit.editionsFrom at h
    rcases List.mem_append.mp h with h | h
    · refine ⟨0, e, rfl, ?_⟩
      split at h
      · rename_i d hw
        split at h
        · rename_i dc
          rw [List.mem_singleton] at h
          subst h
          exact ⟨by rw [hw, dc], rfl, rfl⟩
        · simp at h
      · simp at h
    · obtain ⟨i, e1, h1, h2, h3, h4⟩ := eds_mem h
      exact ⟨i + 1, e1, h1, h2, h3, h4⟩
theorem eds_len {c : Sheet} : ∀ {l : Log} {L : Land}, (LsEdit.editionsFrom c L l).length ≤ l.length
  | [], L => by simp [LsEdit.editionsFrom]
  | e :: r, L => by
    have := eds_len (c := c) (l := r) (L := LsEdit.turn L e)
    unfold LsEdit.editionsFrom
    rw [List.length_append, List.length_cons]
    split
    · split
      · simp; omega
      · simp; omega
    · simp; omega
structure okEd (x : LsEdit.Edition) : Prop where
  day : x.day ≤ 99999
  ris : La.Ris x.land
  len : x.land.length ≤ 200
  all : allG x.land
theorem GoodL.ed {l : Log} (g : GoodL l) {c : Sheet} {x : LsEdit.Edition} (h : x ∈ LsEdit.editions l c) : okEd x := by
  obtain ⟨i, e, h1, h2, h3, h4⟩ := eds_mem h
  refine ⟨by rw [h3]; exact g.days e (List.mem_of_getElem? h1), by rw [h4]; exact La.ris_on (ris_land _), ?_, ?_⟩
  · rw [h4]; exact Nat.le_trans (List.length_filter_le _ _) (g.sz i)
  · rw [h4]; intro f hf; exact g.allG i f (List.mem_filter.mp hf).1
theorem hist_app {n : Nat} : ∀ {l m : Log} {L : Land}, LsEdit.historyFrom n L (l ++ m) = LsEdit.historyFrom n L l ++ LsEdit.historyFrom n (landFrom L l) m
  | [], m, L => rfl
  | e :: r, m, L => by
    show _ ++ LsEdit.historyFrom n (LsEdit.turn L e) (r ++ m) = _
    rw [hist_app (l := r)]
    rw [← List.append_assoc]; rfl
theorem hist_len {n : Nat} : ∀ {l : Log} {L : Land}, (LsEdit.historyFrom n L l).length ≤ l.length
  | [], L => by simp [LsEdit.historyFrom]
  | e :: r, L => by
    have := hist_len (n := n) (l := r) (L := LsEdit.turn L e)
    unfold LsEdit.historyFrom
    rw [List.length_append, List.length_cons]
    split
    · split <;> simp <;> omega
    · split <;> simp <;> omega
    · simp; omega
/-! the log in the heap -/
abbrev En := Ey × Addr
def putFs (day n : Int) (fa : Addr) (was : Int) : List (Str × V) := [("day", .int day), ("number", .int n), ("feature", .ref fa), ("was", .int was)]
def outFs (day n : Int) : List (Str × V) := [("day", .int day), ("number", .int n)]
def issFs (day : Int) (sa da : Addr) : List (Str × V) := [("day", .int day), ("sheet", .ref sa), ("features", .ref da)]
def wasI (L : Land) (n : Nat) : Int := if (LsLand.find L n).isSome = true then 1 else 0
def IssAt (A : Ad) (H : Hp) (a : Addr) (c : Sheet) (day : Nat) (L : Land) : Prop := ∃ dx sa da, H a = some (.ins A.aIssue dx (issFs day sa da)) ∧ ShAt H sa c ∧ LandAt A H da L
def PutAt (A : Ad) (H : Hp) (a : Addr) (f : Feature) (day : Nat) (was : Int) : Prop := ∃ dx fa, H a = some (.ins A.aPut dx (putFs day f.number fa was)) ∧ FtAt A H fa f
def OutAt (A : Ad) (H : Hp) (a : Addr) (n : Nat) (day : Nat) : Prop := ∃ dx, H a = some (.ins A.aOut dx (outFs day n))
def EntAt (A : Ad) (H : Hp) (L : Land) (z : En) : Prop := match z.1.what with
  | .put f => PutAt A H z.2 f z.1.day (wasI L f.number)
  | .out n => OutAt A H z.2 n z.1.day
  | .issue c => IssAt A H z.2 c z.1.day (LsEdit.onSheet L c)
def Ents (A : Ad) (H : Hp) : Land → List En → Prop
  | _, [] => True
  | L, z :: r => EntAt A H L z ∧ Ents A H (LsEdit.turn L z.1) r
def LogP (A : Ad) (H : Hp) (g ea : Addr) (zs : List En) : Prop := ∃ dx, H g = some (.ins A.aLogbook dx [("entries", .ref ea)]) ∧ H ea = some (.lst (zs.map fun z => V.ref z.2)) ∧ Ents A H [] zs
theorem IssAt.mono {A : Ad} {H H' : Hp} {a : Addr} {c : Sheet} {day : Nat} {L : Land} (e : Same H H') (h : IssAt A H a c day L) : IssAt A H' a c day L := by
  obtain ⟨dx, sa, da, h1, h2, h3⟩ := h
  exact ⟨dx, sa, da, e _ _ h1, h2.mono e, h3.mono e⟩
theorem EntAt.mono {A : Ad} {H H' : Hp} {L : Land} {z : En} (e : Same H H') (h : EntAt A H L z) : EntAt A H' L z := by
  unfold EntAt at h ⊢
  cases hw : z.1.what with
  | put f =>
    rw [hw] at h
    obtain ⟨dx, fa, h1, h2⟩ := h
    exact ⟨dx, fa, e _ _ h1, h2.mono e⟩
  | out n =>
    rw [hw] at h
    obtain ⟨dx, h1⟩ := h
    exact ⟨dx, e _ _ h1⟩
  | issue c =>
    rw [hw] at h
    exact IssAt.mono e h
theorem Ents.mono {A : Ad} {H H' : Hp} (e : Same H H') : ∀ {zs : List En} {L : Land}, Ents A H L zs → Ents A H' L zs
  | [], _, _ => True.intro
  | _ :: _, _, h => ⟨h.1.mono e, Ents.mono e h.2⟩
theorem LogP.mono {A : Ad} {H H' : Hp} {g ea : Addr} {zs : List En} (e : Same H H') (h : LogP A H g ea zs) : LogP A H' g ea zs := by
  obtain ⟨dx, h1, h2, h3⟩ := h
  exact ⟨dx, e _ _ h1, e _ _ h2, h3.mono e⟩
def lg (zs : List En) : Log := zs.map Prod.fst
theorem Ents.get {A : Ad} {H : Hp} : ∀ {zs : List En} {L : Land} {i : Nat} {z : En}, Ents A H L zs → zs[i]? = some z → EntAt A H (landFrom L (lg (zs.take i))) z
  | [], _, _, _, _, h => by simp at h
  | a :: r, L, 0, z, h, e => by simp at e; subst e; exact h.1
  | a :: r, L, i + 1, z, h, e => Ents.get (zs := r) (i := i) h.2 (by simpa using e)
theorem Ents.take {A : Ad} {H : Hp} : ∀ {zs : List En} {L : Land} (k : Nat), Ents A H L zs → Ents A H L (zs.take k)
  | [], _, k, h => by simp; exact True.intro
  | a :: r, L, 0, h => True.intro
  | a :: r, L, k + 1, h => ⟨h.1, Ents.take k h.2⟩
theorem Ents.app {A : Ad} {H : Hp} {z : En} : ∀ {zs : List En} {L : Land}, Ents A H L zs → EntAt A H (landFrom L (lg zs)) z → Ents A H L (zs ++ [z])
  | [], L, _, h => ⟨h, True.intro⟩
  | a :: r, L, h, hz => ⟨h.1, Ents.app h.2 hz⟩
theorem ents_eds {A : Ad} {H : Hp} {c : Sheet} : ∀ {zs : List En} {L : Land}, Ents A H L zs → Paired (fun (z : En) (x : LsEdit.Edition) => IssAt A H z.2 c x.day x.land) (zs.filter fun z => decide (z.1.what = .issue c)) (LsEdit.editionsFrom c L (lg zs))
  | [], _, _ => .nil
  | z :: r, L, h => by
    have ih := ents_eds (c := c) h.2
    have h1 := h.1
    show Paired _ _ ((match z.1.what with
      | .issue d => if d = c then [⟨z.1.day, LsEdit.onSheet L c⟩] else []
      | _ => []) ++ LsEdit.editionsFrom c (LsEdit.turn L z.1) (lg r))
    unfold EntAt at h1
    rw [List.filter_cons]
    cases hw : z.1.what with
    | put f => rw [hw] at h1; simpa [hw] using ih
    | out n => rw [hw] at h1; simpa [hw] using ih
    | issue d =>
      rw [hw] at h1
      by_cases e : d = c
      · subst e
        simp only [if_true, decide_true]
        exact .cons h1 ih
      · have e2 : decide (What.issue d = What.issue c) = false := decide_eq_false fun z => e (by cases z; rfl)
        rw [e2]
        simp only [if_neg e]
        exact ih
end Wk
end
/-! ### WLog2 -/
section
set_option Elab.async false
set_option linter.all false
set_option maxRecDepth 100000
set_option maxHeartbeats 2000000
namespace Wk
open PySem PySem.Spec PyProof.Rows L2
open LsGeo (Pt)
open LsRefs (Sheet)
open LsText (Bytes)
open LsLand (Feature Land)
open LsEdit (Log What)
section
variable {day n was : Int} {fa sa da ea : Addr}
theorem putFs_day : (putFs day n fa was).lookup ("day" : Str) = some (.int day) := lk_here
theorem putFs_number : (putFs day n fa was).lookup ("number" : Str) = some (.int n) := (lk_past (by decide +kernel)).trans lk_here
theorem putFs_feature : (putFs day n fa was).lookup ("feature" : Str) = some (.ref fa) := (lk_past (by decide +kernel)).trans ((lk_past (by decide +kernel)).trans lk_here)
theorem putFs_was : (putFs day n fa was).lookup ("was" : Str) = some (.int was) := (lk_past (by decide +kernel)).trans ((lk_past (by decide +kernel)).trans ((lk_past (by decide +kernel)).trans lk_here))
theorem outFs_day : (outFs day n).lookup ("day" : Str) = some (.int day) := lk_here
theorem outFs_number : (outFs day n).lookup ("number" : Str) = some (.int n) := (lk_past (by decide +kernel)).trans lk_here
theorem issFs_day : (issFs day sa da).lookup ("day" : Str) = some (.int day) := lk_here
theorem issFs_sheet : (issFs day sa da).lookup ("sheet" : Str) = some (.ref sa) := (lk_past (by decide +kernel)).trans lk_here
theorem issFs_features : (issFs day sa da).lookup ("features" : Str) = some (.ref da) := (lk_past (by decide +kernel)).trans ((lk_past (by decide +kernel)).trans lk_here)
theorem logFs_none {m : Str} (h : (m == ("entries" : Str)) = false) : ([("entries", V.ref ea)] : List (Str × V)).lookup m = none := (lk_past h).trans rfl
end
def RZ (z : En) : RR := isV (.ref z.2)
instance (z : En) : Mono (RZ z) := ⟨fun _ h => h⟩
instance (z : En) : Stab (RZ z) := ⟨fun _ h => h⟩
def isIss (z : En) : Bool := match z.1.what with
  | .issue _ => true
  | _ => false
section
variable {P : Program} {w : World} {K : PySem.W.Frag} {mg : Str → Option Value} {base : Heap} {A : Ad} {σ : L2.St} {H B : Hp} {ta tb te to : TE} {R : RR} {L : Land} {z : En}
theorem e_meth {S : List V → Hp → RR → Prop} {C a dx : Addr} {m : Str} {fs : List (Str × V)} {Pa : List V → Hp → Prop} {E : XK} {t : TA} (ho : EvP to σ H (isV (.ref a))) (h : H a = some (.ins C dx fs)) (hl : fs.lookup m = none) (ht : EvA t σ H Pa) (hs : ∀ vs H1, Same H H1 → Pa vs H1 → S (.ref a :: vs) H1 R) : EvP (tMeth C m (pure S) [] E to t) σ H R := fun H1 e Q q =>
  ho H1 e _ fun v H2 e2 hv => by
    cases hv
    refine ⟨a, dx, fs, rfl, (e.trans e2) _ _ h, hl, ht H2 (e.trans e2) _ fun us H3 e3 hu => ?_⟩
    rw [List.append_nil]
    exact ⟨R, hs us H3 ((e.trans e2).trans e3) hu, fun v H4 e4 hv => q v H4 ((e2.trans e3).trans e4) hv⟩
theorem e_isi {a C D dx : Addr} {fs : List (Str × V)} {b : Bool} (ha : EvP te σ H (isV (.ref a))) (h : H a = some (.ins C dx fs)) (ic : C8.InsC K C) (hk : PySem.W.kitOne K (.ref C) (.ref D) = some b) : EvP (tCB (rIsi K) (tCons te (tCons (tC (.ref D)) tNil))) σ H (isV (.bl b)) :=
  e_cb (ea_cons ha (ea_cons ev_c ea_nil)) fun vs H1 e hv Q q => by
    cases hv
    exact ⟨.ref a, .ref D, .ref C, .ref D, b, rfl, .own D, .base (.ins (e _ _ h) ic.cl ic.ha ic.hn ic.htk ic.hm), hk, q _ H1 (Same.refl _) rfl⟩
theorem e_day (T : Txt K mg A) (ha : EvP te σ H (isV (.ref z.2))) (h : EntAt A H L z) : EvP (tFld K te "day") σ H (isV (.int z.1.day)) := by
  unfold EntAt at h
  cases hw : z.1.what with
  | put f => rw [hw] at h; obtain ⟨dx, fa, h1, _⟩ := h; exact e_fld ha h1 T.cl_Put T.n_Put_day putFs_day
  | out n => rw [hw] at h; obtain ⟨dx, h1⟩ := h; exact e_fld ha h1 T.cl_Out T.n_Out_day outFs_day
  | issue c => rw [hw] at h; obtain ⟨dx, sa, da, h1, _⟩ := h; exact e_fld ha h1 T.cl_Issue T.n_Issue_day issFs_day
theorem e_isIss (T : Txt K mg A) (ha : EvP te σ H (isV (.ref z.2))) (h : EntAt A H L z) : EvP (tCB (rIsi K) (tCons te (tCons (tC (.ref A.aIssue)) tNil))) σ H (isV (.bl (isIss z))) := by
  unfold EntAt at h
  unfold isIss
  cases hw : z.1.what with
  | put f => rw [hw] at h; obtain ⟨dx, fa, h1, _⟩ := h; exact e_isi ha h1 T.i_Put T.k_Put_Issue
  | out n => rw [hw] at h; obtain ⟨dx, h1⟩ := h; exact e_isi ha h1 T.i_Out T.k_Out_Issue
  | issue c => rw [hw] at h; obtain ⟨dx, sa, da, h1, _⟩ := h; exact e_isi ha h1 T.i_Issue T.k_Issue_Issue
theorem e_entries (T : Txt K mg A) {g ea : Addr} {zs : List En} (ha : EvP te σ H (isV (.ref g))) (h : LogP A H g ea zs) : EvP (tFld K te "entries") σ H (isV (.ref ea)) := by
  obtain ⟨dx, h1, _⟩ := h
  exact e_fld ha h1 T.cl_Logbook T.n_Logbook_entries lk_here
theorem Ents.mem {A : Ad} {H : Hp} {zs : List En} {L : Land} {z : En} (h : Ents A H L zs) (hm : z ∈ zs) : ∃ M, EntAt A H M z := by
  obtain ⟨i, hi⟩ := List.mem_iff_getElem?.mp hm
  exact ⟨_, h.get hi⟩
theorem lastDay_get {l : Log} (h : l ≠ []) : ∃ e, l[l.length - 1]? = some e ∧ LsEdit.lastDay l = e.day := by
  have := List.length_pos_iff.mpr h
  refine ⟨l[l.length - 1]'(by omega), List.getElem?_eq_getElem (by omega), ?_⟩
  unfold LsEdit.lastDay
  rw [List.getLast?_eq_getElem?, List.getElem?_eq_getElem (by omega)]; rfl
def sp_Logbook_is_full (K : PySem.W.Frag) (A : Ad) : Sp := pure fun vs H R => ∃ g ea zs, vs = [.ref g] ∧ LogP A H g ea zs ∧ R = isV (.bl (decide (400 ≤ zs.length)))
theorem ok_Logbook_is_full (T : Txt K mg A)  {f : Addr} {fd : FuncData} (ME : Meth K A.aLogbook "is_full" f) (F : C8.Fun K "is_full" "Logbook.is_full" s_Logbook_is_full f fd) (bb : Binds K fd ["self"] []) : C8.Met P w K mg base 1 A.aLogbook "is_full" (sp_Logbook_is_full K A) [] := by
  refine C8.met0 T.cl_Logbook ME F bb sc_Logbook_is_full (fun vs H Q E h => ?_) (fun cdv Ar outer s H vs Q E hr h => ?_)
  · obtain ⟨R, ⟨g, ea, zs, rfl, _⟩, _⟩ := h
    rfl
  · obtain ⟨R, ⟨g, ea, zs, rfl, hL, rfl⟩, k⟩ := h
    obtain ⟨dx, h1, h2, h3⟩ := id hL
    refine ⟨_, (pss_one (ps_ret (pe_cmpR op_ge (pe_callB call_len_seq (by rfl) T.len (by decide +kernel) (pa_cons (pe_fld (pv 0) rfl) pa_nil)) (C8.pe_gc rfl T.g_MOST_ENTRIES) (nomark _)))), body (s_ret (Same.refl _) ((e_ge (e_lenS (e_entries T (ev_var rfl) hL) h2) ev_c).is ?_)) k⟩
    refine congrArg V.bl ?_
    rw [List.length_map, decide_eq_decide]; omega
def sp_Logbook_last_day (K : PySem.W.Frag) (A : Ad) : Sp := pure fun vs H R => ∃ g ea zs, vs = [.ref g] ∧ LogP A H g ea zs ∧ R = isV (.int (LsEdit.lastDay (lg zs)))
theorem ok_Logbook_last_day (T : Txt K mg A)  {f : Addr} {fd : FuncData} (ME : Meth K A.aLogbook "last_day" f) (F : C8.Fun K "last_day" "Logbook.last_day" s_Logbook_last_day f fd) (bb : Binds K fd ["self"] []) : C8.Met P w K mg base 1 A.aLogbook "last_day" (sp_Logbook_last_day K A) [] := by
  refine C8.met0 T.cl_Logbook ME F bb sc_Logbook_last_day (fun vs H Q E h => ?_) (fun cdv Ar outer s H vs Q E hr h => ?_)
  · obtain ⟨R, ⟨g, ea, zs, rfl, _⟩, _⟩ := h
    rfl
  · obtain ⟨R, ⟨g, ea, zs, rfl, hL, rfl⟩, k⟩ := h
    obtain ⟨dx, h1, h2, h3⟩ := id hL
    refine ⟨_, (pss_cons (ps_if (pt_cmpR op_eq (pe_callB call_len_seq (by rfl) T.len (by decide +kernel) (pa_cons (pe_fld (pv 0) rfl) pa_nil)) pe_int (nomark _)) (pss_one (ps_ret pe_int)) pss_nil) (pss_one (ps_ret (pe_fld (pe_ix ix_list (pe_fld (pv 0) rfl) (pe_op op_sub (pe_callB call_len_seq (by rfl) T.len (by decide +kernel) (pa_cons (pe_fld (pv 0) rfl) pa_nil)) pe_int) (fun _ _ => rfl)) rfl)))), body (s_when (et_test (e_eq (e_lenS (e_entries T (ev_var rfl) hL) h2) ev_c)) (fun c => s_ret (Same.refl _) (ev_c.is ?_)) fun c => s_ret (Same.refl _) ?_) k⟩
    · have := of_decide_eq_true c
      have e : zs = [] := by
        rw [List.length_map] at this
        exact List.eq_nil_of_length_eq_zero (by omega)
      subst e; rfl
    · have := of_decide_eq_false c
      rw [List.length_map] at this
      have ne : lg zs ≠ [] := fun z => by
        have : zs = [] := List.map_eq_nil_iff.mp z
        subst this; simp at *
      obtain ⟨e, he, hd⟩ := lastDay_get ne
      have ll : (lg zs).length = zs.length := List.length_map _
      rw [ll] at he
      unfold lg at he
      rw [List.getElem?_map] at he
      obtain ⟨z, hz, rfl⟩ := Option.map_eq_some_iff.mp he
      obtain ⟨M, hM⟩ := h3.mem (List.mem_of_getElem? hz)
      rw [hd]
      refine e_day T (z := z) (e_ixL (e_entries T (ev_var rfl) hL) ((e_sub (e_lenS (e_entries T (ev_var rfl) hL) h2) ev_c).is (y := .int ((zs.length - 1 : Nat) : Int)) (congrArg V.int (by rw [List.length_map]; omega))) h2 (atI_nat (by rw [List.getElem?_map, hz]; rfl))) hM
def upz (zs : List En) (d : Nat) : List En := zs.filter fun z => decide (z.1.day ≤ d)
theorem lg_upz (zs : List En) (d : Nat) : lg (upz zs d) = LsEdit.upTo (lg zs) d := by
  unfold lg upz LsEdit.upTo
  rw [List.filter_map]; rfl
theorem upz_take {zs : List En} (g : GoodL (lg zs)) (d : Nat) : ∃ k, upz zs d = zs.take k :=
  filter_take ((List.pairwise_map.mp g.srt).imp fun h z => decide_eq_true (Nat.le_trans h (of_decide_eq_true z)))
theorem upz_ents {zs : List En} (g : GoodL (lg zs)) {d : Nat} (h : Ents A H [] zs) : Ents A H [] (upz zs d) := by
  obtain ⟨k, e⟩ := upz_take g d
  rw [e]; exact h.take k
theorem upz_good {zs : List En} (g : GoodL (lg zs)) (d : Nat) : GoodL (lg (upz zs d)) := by rw [lg_upz]; exact g.upTo d
theorem logs_lst {g ea : Addr} {zs : List En} (h : LogP A H g ea zs) : LstAt RZ H ea zs := by
  obtain ⟨dx, h1, h2, h3⟩ := h
  exact ⟨_, h2, map_vals (g := fun z : En => V.ref z.2) (H := H) zs⟩
theorem rz_isL {v : V} {H : Hp} {zs : List En} (h : RLst RZ zs v H) : isL (zs.map fun z => V.ref z.2) v H := by
  obtain ⟨a, rfl, vs, h1, h2⟩ := h
  rw [vals_map (g := fun z : En => V.ref z.2) h2] at h1
  exact ⟨a, rfl, h1⟩
theorem upz_len {zs : List En} {d : Nat} : (upz zs d).length ≤ zs.length := List.length_filter_le _ _
def sp_Logbook_up_to (K : PySem.W.Frag) (A : Ad) : Sp := pure fun vs H R => ∃ (g ea : Addr) (zs : List En) (d : Nat), vs = [.ref g, .int d] ∧ LogP A H g ea zs ∧ zs.length ≤ 400 ∧ R = RLst RZ (upz zs d)
theorem ok_Logbook_up_to (T : Txt K mg A)  {f : Addr} {fd : FuncData} (ME : Meth K A.aLogbook "up_to" f) (F : C8.Fun K "up_to" "Logbook.up_to" s_Logbook_up_to f fd) (bb : Binds K fd ["self", "day"] []) : C8.Met P w K mg base 1 A.aLogbook "up_to" (sp_Logbook_up_to K A) [] := by
  refine C8.met0 T.cl_Logbook ME F bb sc_Logbook_up_to (fun vs H Q E h => ?_) (fun cdv Ar outer s H vs Q E hr h => ?_)
  · obtain ⟨R, ⟨g, ea, zs, d, rfl, _⟩, _⟩ := h
    rfl
  · obtain ⟨R, ⟨g, ea, zs, d, rfl, hL, hl, rfl⟩, k⟩ := h
    obtain ⟨dx, h1, h2, h3⟩ := id hL
    refine ⟨_, (pss_one (ps_ret (pe_lc (own := [("entry", 2)]) rfl sc_Logbook_up_to.nd (pi_list (pe_fld (pv 0) rfl)) (blkOk_by (own := [("entry", 2)]) (N := N_Logbook_up_to) (sc := C8.fnScope s_Logbook_up_to) (by decide +kernel)) (fun _ _ _ _ _ => (pg_name (i := 2) sc_Logbook_up_to.nd rfl (Or.inl rfl))) (fun _ _ _ _ _ => (pts_one (pt_cmpR op_le (pe_fldK (K := K) rfl (pv 2) rfl) (pv 1) (nomark _)))) (fun _ _ _ _ _ => (pv 2))))), body (s_ret (Same.refl _) (e_lcF (F := RZ) (G := RZ) (fun z => decide (z.1.day ≤ d)) (e_entries T (ev_var rfl) hL) (logs_lst hL) (by omega) (fun _ => rfl) (fun z v H' hv hm s => ?_) fun z v H' hv hm s _ => ?_)) k⟩
    · cases hv
      obtain ⟨M, hM⟩ := h3.mem hm
      refine (et_test (e_le (e_day T (z := z) (ev_var rfl) (hM.mono s)) (ev_var rfl))).is ?_
      rw [decide_eq_decide]; omega
    · cases hv; exact ev_var rfl
/-- a land of the log: its features' facts stand wherever the entries' do -/
def RLandX (A : Ad) (B : Hp) (zs : List En) (L : Land) : RR := fun v H => ∃ d ps, v = .ref d ∧ H d = some (.dK (ps.map kvOf)) ∧ ∀ F, Same F B → Ents A F [] zs → LandP A F ps L
instance (A : Ad) (B : Hp) (zs : List En) (L : Land) : Mono (RLandX A B zs L) := ⟨fun e ⟨d, ps, h1, h2, h3⟩ => ⟨d, ps, h1, e _ _ h2, h3⟩⟩
def sp_Logbook_land_of (K : PySem.W.Frag) (A : Ad) : Sp := pure fun vs H R => ∃ (g ea : Addr) (zs : List En) (d : Nat), vs = [.ref g, .int d] ∧ LogP A H g ea zs ∧ GoodL (lg zs) ∧ R = RLandX A H zs (LsEdit.landOf (LsEdit.upTo (lg zs) d))
theorem lg_get {zs : List En} {i : Nat} {z : En} (h : zs[i]? = some z) : (lg zs)[i]? = some z.1 := by
  unfold lg; rw [List.getElem?_map, h]; rfl
theorem lg_take {zs : List En} {i : Nat} : lg (zs.take i) = (lg zs).take i := by unfold lg; rw [List.map_take]
theorem ok_Logbook_land_of (T : Txt K mg A) (c_Logbook_up_to : C8.Met P w K mg base 1 A.aLogbook "up_to" (sp_Logbook_up_to K A) []) {f : Addr} {fd : FuncData} (ME : Meth K A.aLogbook "land_of" f) (F : C8.Fun K "land_of" "Logbook.land_of" s_Logbook_land_of f fd) (bb : Binds K fd ["self", "day"] []) : C8.Met P w K mg base 2 A.aLogbook "land_of" (sp_Logbook_land_of K A) [] := by
  refine C8.met0 T.cl_Logbook ME F bb sc_Logbook_land_of (fun vs H Q E h => ?_) (fun cdv Ar outer s H vs Q E hr h => ?_)
  · obtain ⟨R, ⟨g, ea, zs, d, rfl, _⟩, _⟩ := h
    rfl
  · obtain ⟨R, ⟨g, ea, zs, d, rfl, hL, gd, rfl⟩, k⟩ := h
    obtain ⟨dx, h1, h2, h3⟩ := id hL
    have gl : zs.length ≤ 400 := by have := gd.len; unfold lg at this; rw [List.length_map] at this; exact this
    have hE := upz_ents gd (d := d) h3
    have gu := upz_good gd d
    have ul := upz_len (zs := zs) (d := d)
    rw [← lg_upz] at k
    refine ⟨_, (pss_cons (ps_set (i := 2) sc_Logbook_land_of.nd rfl (Or.inl rfl) pe_dnewK) (pss_cons (ps_for PassesOwn.never rfl (pi_list (C8.pe_mt c_Logbook_up_to hr (by decide) (pv 0) (pa_cons (pv 1) pa_nil))) (pg_name (i := 3) sc_Logbook_land_of.nd rfl (Or.inl rfl)) (pss_one (ps_if (pt_val (pe_callB call_isi (by rfl) T.isinstance (by decide +kernel) (pa_cons (pv 3) (pa_cons (C8.pe_gc rfl T.g_Put) pa_nil)))) (pss_one (ps_dput (hu_of hr) (pv 2) (pe_fld (pv 3) rfl) (pe_fld (pv 3) rfl) rfl)) (pss_one (ps_if (pt_val (pe_callB call_isi (by rfl) T.isinstance (by decide +kernel) (pa_cons (pv 3) (pa_cons (C8.pe_gc rfl T.g_Out) pa_nil)))) (pss_one (ps_expr (pe_dpop1 (pv 2) (pe_fld (pv 3) rfl) ⟨rfl, rfl, rfl, rfl⟩))) pss_nil))))) (pss_one (ps_ret (pv 2))))), body (s_newK (Same.refl _) fun p H1 hp0 s1 sB1 hB hp => ?_) k⟩
    refine s_seq (M := fun σ' H' => ∃ v3, σ' = [some (.ref g), some (.int d), some (.ref p), v3] ∧ ∃ ps, H' p = some (.dK (ps.map kvOf)) ∧ ∀ F, Same F H → Ents A F [] zs → LandP A F ps (landFrom [] (lg (upz zs d)))) (s_forM (p := p) (vs := (upz zs d).map fun z => V.ref z.2) s1 hB ((e_meth (R := RLst RZ (upz zs d)) (ev_var rfl) (s1 _ _ h1) (logFs_none (by decide +kernel)) (ea_v1 rfl) fun vs H2 e hv => ?_).imp fun v H2 e hv => ⟨rz_isL hv, fun z => ?_⟩)
      (fun i σ' H' => ∃ v3, σ' = [some (.ref g), some (.int d), some (.ref p), v3] ∧ ∃ ps, H' p = some (.dK (ps.map kvOf)) ∧ ∀ F, Same F H → Ents A F [] zs → LandP A F ps (landFrom [] ((lg (upz zs d)).take i))) (fun H2 e => ⟨_, rfl, [], e _ _ hp, fun F _ _ => ⟨by simp, by simp, by simp [landFrom]⟩⟩) (fun B' i x σ' H' hx sB srm hBp s' q => ?_) fun σ' H' sB srm q => ?_) fun σ' H' s' hM => ?_
    · cases hv
      exact ⟨g, ea, zs, d, rfl, (hL.mono s1).mono e, gl, rfl⟩
    · subst z
      obtain ⟨a, e1, vs, h4, _⟩ := hv
      cases e1
      rw [e _ _ hp] at h4; cases h4
    · obtain ⟨v3, rfl, ps, hq, hpsF⟩ := q
      have hps := hpsF H (Same.refl _) h3
      rw [List.getElem?_map] at hx
      obtain ⟨z, hz, rfl⟩ := Option.map_eq_some_iff.mp hx
      have hzl := lg_get hz
      have hEz := hE.get hz
      rw [lg_take] at hEz
      have ok := gu.ok i _ hzl
      have sH := sB.trans s'
      have ris := ris_land ((lg (upz zs d)).take i)
      have psl := ps_len hps ris
      have sz := gu.sz i
      rw [landFrom_snoc hzl]
      unfold EntAt at hEz
      unfold okE at ok
      unfold LsEdit.turn
      cases hw : z.1.what with
      | put f =>
        rw [hw] at hEz ok
        obtain ⟨dx2, fa, h4, h5⟩ := hEz
        have h4' := sH _ _ h4
        obtain ⟨e1, e2⟩ := land_put hps ris h5
        have e2F : ∀ F, Same F H → Ents A F [] zs → LandP A F (putPs ps f fa) (LsLand.put f (landFrom [] ((lg (upz zs d)).take i))) := fun F sF eF => by
          have hEF := (upz_ents gd (d := d) eF).get hz
          unfold EntAt at hEF
          rw [hw] at hEF
          obtain ⟨dx3, fa3, k4, k5⟩ := hEF
          have := sF _ _ k4
          rw [h4] at this
          simp only [Option.some.injEq, HO.ins.injEq, putFs, List.cons.injEq, Prod.mk.injEq, V.ref.injEq] at this
          exact (land_put (hpsF F sF eF) ris (show FtAt A F fa f by rw [this.2.2.2.2.1.2]; exact k5)).2
        refine s_if (et_B (e_isi (ev_var rfl) h4' T.i_Put T.k_Put_Put)) (fun _ => s_dputK (a := p) (k := .inl (f.number : Int)) (v := .ref fa) s' hBp hq (ev_var rfl) (e_fld (ev_var rfl) h4' T.cl_Put T.n_Put_number putFs_number) (e_fld (ev_var rfl) h4' T.cl_Put T.n_Put_feature putFs_feature) (by rw [List.length_map]; omega) fun H2 s2 sb => ⟨_, rfl, _, by rw [upd_same, e1], e2F⟩) fun c => by cases c
      | out n =>
        rw [hw] at hEz ok
        obtain ⟨dx2, h4⟩ := hEz
        have h4' := sH _ _ h4
        obtain ⟨e1, e2⟩ := land_drop (n := n) hps
        have e2F : ∀ F, Same F H → Ents A F [] zs → LandP A F (dropPs ps n) (LsLand.out (landFrom [] ((lg (upz zs d)).take i)) n) := fun F sF eF => by
          exact (land_drop (n := n) (hpsF F sF eF)).2
        rcases land_val hps ris n with ⟨f, a, _, _, _, e4, _⟩ | ⟨e3, _, _⟩
        · refine s_if (et_B (e_isi (ev_var rfl) h4' T.i_Out T.k_Out_Put)) (fun c => by cases c) fun _ => s_if (et_B (e_isi (ev_var rfl) h4' T.i_Out T.k_Out_Out)) (fun _ => s_dpop (a := p) (k := .inl (n : Int)) (v := .ref a) s' hBp hq (ev_var rfl) (e_fld (ev_var rfl) h4' T.cl_Out T.n_Out_number outFs_number) e4 fun H2 s2 sb => ⟨_, rfl, _, by rw [upd_same, e1], e2F⟩) fun c => by cases c
        · have := ok.2.2
          rw [e3] at this; cases this
      | issue c =>
        rw [hw] at hEz
        obtain ⟨dx2, sa, da, h4, _⟩ := hEz
        have h4' := sH _ _ h4
        refine s_if (et_B (e_isi (ev_var rfl) h4' T.i_Issue T.k_Issue_Put)) (fun c => by cases c) fun _ => s_if (et_B (e_isi (ev_var rfl) h4' T.i_Issue T.k_Issue_Out)) (fun c => by cases c) fun _ => s_nx fun H2 e => ⟨s'.trans e, _, rfl, ps, e _ _ hq, hpsF⟩
    · obtain ⟨v3, rfl, ps, hq, hps⟩ := q
      rw [List.length_map, List.take_of_length_le (by unfold lg; rw [List.length_map]; omega)] at hps
      exact ⟨_, rfl, ps, hq, hps⟩
    · obtain ⟨v3, rfl, ps, hq, hps⟩ := hM
      exact s_ret s' ((ev_var rfl).imp fun v H2 e h => by cases h; exact ⟨p, ps, rfl, e _ _ hq, hps⟩)
def sp_Logbook_issues (K : PySem.W.Frag) (A : Ad) : Sp := pure fun vs H R => ∃ (g ea : Addr) (zs : List En) (d : Nat), vs = [.ref g, .int d] ∧ LogP A H g ea zs ∧ GoodL (lg zs) ∧ R = RLst RZ ((upz zs d).filter isIss)
theorem ok_Logbook_issues (T : Txt K mg A) (c_Logbook_up_to : C8.Met P w K mg base 1 A.aLogbook "up_to" (sp_Logbook_up_to K A) []) {f : Addr} {fd : FuncData} (ME : Meth K A.aLogbook "issues" f) (F : C8.Fun K "issues" "Logbook.issues" s_Logbook_issues f fd) (bb : Binds K fd ["self", "day"] []) : C8.Met P w K mg base 2 A.aLogbook "issues" (sp_Logbook_issues K A) [] := by
  refine C8.met0 T.cl_Logbook ME F bb sc_Logbook_issues (fun vs H Q E h => ?_) (fun cdv Ar outer s H vs Q E hr h => ?_)
  · obtain ⟨R, ⟨g, ea, zs, d, rfl, _⟩, _⟩ := h
    rfl
  · obtain ⟨R, ⟨g, ea, zs, d, rfl, hL, gd, rfl⟩, k⟩ := h
    obtain ⟨dx, h1, h2, h3⟩ := id hL
    have gl : zs.length ≤ 400 := by have := gd.len; unfold lg at this; rw [List.length_map] at this; exact this
    have ul := upz_len (zs := zs) (d := d)
    refine ⟨_, (pss_one (ps_ret (pe_lc (own := [("entry", 2)]) rfl sc_Logbook_issues.nd (pi_list (C8.pe_mt c_Logbook_up_to hr (by decide) (pv 0) (pa_cons (pv 1) pa_nil))) (blkOk_by (own := [("entry", 2)]) (N := N_Logbook_issues) (sc := C8.fnScope s_Logbook_issues) (by decide +kernel)) (fun _ _ _ _ _ => (pg_name (i := 2) sc_Logbook_issues.nd rfl (Or.inl rfl))) (fun _ _ _ _ _ => (pts_one (pt_val (pe_callB (r := rIsi K) call_isi (by rfl) T.isinstance (by decide +kernel) (pa_cons (pv 2) (pa_cons (C8.pe_gc rfl T.g_Issue) pa_nil)))))) (fun _ _ _ _ _ => (pv 2))))), body (s_ret (Same.refl _) (e_lcFN (F := RZ) (G := RZ) (L := upz zs d) isIss (e_meth (ev_var rfl) h1 (logFs_none (by decide +kernel)) (ea_v1 rfl) fun vs H2 e hv => ?_) (by omega) (fun _ => rfl) (fun z v H' hv hm s => ?_) fun z v H' hv hm s _ => ?_)) k⟩
    · cases hv
      exact ⟨g, ea, zs, d, rfl, hL.mono e, gl, rfl⟩
    · cases hv
      obtain ⟨M, hM⟩ := h3.mem (List.mem_filter.mp hm).1
      exact et_B (e_isIss T (z := z) (ev_var rfl) (hM.mono s))
    · cases hv; exact ev_var rfl
def REd (A : Ad) (c : Sheet) (x : LsEdit.Edition) : RR := fun v H => ∃ a, v = .ref a ∧ IssAt A H a c x.day x.land
instance (A : Ad) (c : Sheet) (x : LsEdit.Edition) : Mono (REd A c x) := ⟨fun e ⟨a, h1, h2⟩ => ⟨a, h1, h2.mono e⟩⟩
theorem sheet_int {c d : Sheet} : (c.map fun (x : Nat) => (x : Int)) = (d.map fun (x : Nat) => (x : Int)) ↔ c = d :=
  List.map_inj_right fun x y h => by omega
theorem dp_sh {a : Addr} {c : Sheet} (h : ShAt H a c) : Dp K H (.ref a) (dTup (c.map fun (x : Nat) => (x : Int))) := dp_tup (by rw [List.map_map]; exact h)
theorem rz_eds {zs : List En} {c : Sheet} {v : V} {H' : Hp} (hE : Ents A H [] zs) (s : Same H H') (h : RLst RZ (zs.filter fun z => decide (z.1.what = .issue c)) v H') : RLst (REd A c) (LsEdit.editions (lg zs) c) v H' := by
  obtain ⟨a, rfl, h2⟩ := rz_isL h
  refine ⟨a, rfl, _, h2, Paired.mapL ((ents_eds hE).monoP fun z x q => ⟨z.2, rfl, IssAt.mono s q⟩)⟩
/-- a new thing -/
def RFr (B : Hp) (R : RR) : RR := fun v H => R v H ∧ ∃ p, v = .ref p ∧ B p = none
instance (B : Hp) (R : RR) [m : Mono R] : Mono (RFr B R) := ⟨fun e ⟨h1, h2⟩ => ⟨m.mono e h1, h2⟩⟩
theorem e_lcLNf {tt : TT} {Rl : Addr → Hp → List V → Prop} {tl : TE} {j n : Nat} {vs : List Nat} (keep : Nat → Bool) (O : Nat → RR) [mo : ∀ i, Mono (O i)] [st : ∀ i, Stab (O i)]
    (h : EvP tl σ H (fun v H1 => ∃ a xs, v = .ref a ∧ H1 a = some (.lst xs) ∧ xs.length = n ∧ Rl a H1 xs)) (hn : n ≤ 1000000)
    (hw : ∀ x, wipe ((wipe σ vs).set j (some x)) vs = wipe σ vs)
    (ht : ∀ a xs H2 i x H', Same H H2 → Rl a H2 xs → xs[i]? = some x → Same H2 H' → EvT tt ((wipe σ vs).set j (some x)) H' (keep i)) (he : ∀ a xs H2 i x H', Same H H2 → Rl a H2 xs → xs[i]? = some x → Same H2 H' → keep i = true → EvP te ((wipe σ vs).set j (some x)) H' (O i)) :
    EvP (tLc (iList K tl) (gName j) tt te vs) σ H (RFr H (RLst O ((List.range n).filter keep))) := fun H1 e Q q =>
  h H1 e _ fun v H2 e2 hv => by
    obtain ⟨a, xs, rfl, hx, rfl, hr⟩ := hv
    exact ⟨a, rfl, ⟨xs, SqL.of hx⟩, fun D hD => lcw (walk_list (K := K) (a := a) (xs := xs)) hD hn keep O (fun H' s => s.sl (SqL.of hx)) (fun i H x H' y => by obtain ⟨rfl, _⟩ := y; exact Same.refl _)
      (fun i x H' Hy hi s y Qg k => by
        obtain ⟨rfl, hxi⟩ := y
        exact k _ _ (Same.refl _) (hw x) (ht a xs H2 i x _ (e.trans e2) hr hxi s) (fun kp => he a xs H2 i x _ (e.trans e2) hr hxi s kp))
      (fun H' s r => q _ H' (e2.trans s) ⟨r, D, rfl, (e.trans e2).free hD⟩)⟩
theorem e_lcFNf {α : Type} {F G : α → RR} {tt : TT} [mf : ∀ x, Mono (F x)] [mo : ∀ i, Mono (G i)] [st : ∀ i, Stab (G i)] {L : List α} {tl : TE} {j : Nat} {vs : List Nat} (kp : α → Bool) (h : EvP tl σ H (RLst F L)) (hn : L.length ≤ 1000000)
    (hw : ∀ x, wipe ((wipe σ vs).set j (some x)) vs = wipe σ vs)
    (ht : ∀ x v H', F x v H' → x ∈ L → Same H H' → EvT tt ((wipe σ vs).set j (some v)) H' (kp x)) (he : ∀ x v H', F x v H' → x ∈ L → Same H H' → kp x = true → EvP te ((wipe σ vs).set j (some v)) H' (G x)) :
    EvP (tLc (iList K tl) (gName j) tt te vs) σ H (RFr H (RLst G (L.filter kp))) := by
  refine EvP.imp (e_lcLNf (Rl := fun a H1 xs => Paired (fun v x => F x v H1) xs L) (n := L.length) (fun i => (L[i]?).any kp) (fun i => Ro G (L[i]?)) (h.imp fun v H1 _ r => ?_) hn hw (fun a xs H2 i x H' s2 r hi s => ?_) (fun a xs H2 i x H' s2 r hi s k => ?_)) fun v H1 _ r => ⟨rlst_filter rfl r.1, r.2⟩
  · obtain ⟨a, rfl, vs, h1, h2⟩ := r
    exact ⟨a, vs, rfl, h1, h2.len, h2⟩
  · obtain ⟨y, hy, f⟩ := r.get hi
    rw [hy]
    exact ht y x H' ((mf y).mono s f) (List.mem_of_getElem? hy) (s2.trans s)
  · obtain ⟨y, hy, f⟩ := r.get hi
    rw [hy] at k ⊢
    exact he y x H' ((mf y).mono s f) (List.mem_of_getElem? hy) (s2.trans s) k
def sp_Logbook_editions (K : PySem.W.Frag) (A : Ad) : Sp := pure fun vs H R => ∃ (g ea sa : Addr) (zs : List En) (c : Sheet) (d : Nat), vs = [.ref g, .ref sa, .int d] ∧ LogP A H g ea zs ∧ GoodL (lg zs) ∧ ShAt H sa c ∧ R = RFr H (RLst (REd A c) (LsEdit.editions (LsEdit.upTo (lg zs) d) c))
theorem ok_Logbook_editions (T : Txt K mg A) (c_Logbook_issues : C8.Met P w K mg base 2 A.aLogbook "issues" (sp_Logbook_issues K A) []) {f : Addr} {fd : FuncData} (ME : Meth K A.aLogbook "editions" f) (F : C8.Fun K "editions" "Logbook.editions" s_Logbook_editions f fd) (bb : Binds K fd ["self", "sheet", "day"] []) : C8.Met P w K mg base 3 A.aLogbook "editions" (sp_Logbook_editions K A) [] := by
  refine C8.met0 T.cl_Logbook ME F bb sc_Logbook_editions (fun vs H Q E h => ?_) (fun cdv Ar outer s H vs Q E hr h => ?_)
  · obtain ⟨R, ⟨g, ea, sa, zs, c, d, rfl, _⟩, _⟩ := h
    rfl
  · obtain ⟨R, ⟨g, ea, sa, zs, c, d, rfl, hL, gd, hs, rfl⟩, k⟩ := h
    obtain ⟨dx, h1, h2, h3⟩ := id hL
    have gl : zs.length ≤ 400 := by have := gd.len; unfold lg at this; rw [List.length_map] at this; exact this
    have ul := upz_len (zs := zs) (d := d)
    have hE := upz_ents gd (d := d) h3
    have il := List.length_filter_le isIss (upz zs d)
    rw [← lg_upz] at k
    refine ⟨_, (pss_one (ps_ret (pe_lc (own := [("entry", 3)]) rfl sc_Logbook_editions.nd (pi_list (C8.pe_mt c_Logbook_issues hr (by decide) (pv 0) (pa_cons (pv 2) pa_nil))) (blkOk_by (own := [("entry", 3)]) (N := N_Logbook_editions) (sc := C8.fnScope s_Logbook_editions) (by decide +kernel)) (fun _ _ _ _ _ => (pg_name (i := 3) sc_Logbook_editions.nd rfl (Or.inl rfl))) (fun _ _ _ _ _ => (pts_one (pt_cmpR (r := rEqD K) (op_eqD hr.units) (pe_fldK (K := K) rfl (pv 3) rfl) (pv 1) (nomark _)))) (fun _ _ _ _ _ => (pv 3))))), body (s_ret (Same.refl _) ((e_lcFNf (F := RZ) (G := RZ) (L := (upz zs d).filter isIss) (fun z => decide (z.1.what = .issue c)) (e_meth (ev_var rfl) h1 (logFs_none (by decide +kernel)) (ea_v1 rfl) fun vs H2 e hv => ?_) (by omega) (fun _ => rfl) (fun z v H' hv hm s => ?_) fun z v H' hv hm s _ => ?_).imp fun v H1 s h => ⟨rz_eds hE s ?_, h.2⟩)) k⟩
    · cases hv
      exact ⟨g, ea, zs, d, rfl, hL.mono e, gd, rfl⟩
    · cases hv
      obtain ⟨hm, hi⟩ := List.mem_filter.mp hm
      obtain ⟨M, hM⟩ := h3.mem (List.mem_filter.mp hm).1
      unfold EntAt at hM
      unfold isIss at hi
      cases hw : z.1.what with
      | put f => rw [hw] at hi; cases hi
      | out n => rw [hw] at hi; cases hi
      | issue e =>
        rw [hw] at hM
        obtain ⟨dx2, sb, da, h4, h5, _⟩ := hM
        refine (et_test (ev_op (e_fld (ev_var rfl) (s _ _ h4) T.cl_Issue T.n_Issue_sheet issFs_sheet) (ev_var rfl) (rv_eqD (fun H2 e2 => dp_sh ((h5.mono s).mono e2)) (fun H2 e2 => dp_sh ((hs.mono s).mono e2)) (shaped_tup _) (shaped_tup _) (eqv_tup _ _)))).is ?_
        rw [decide_eq_decide, sheet_int]
        exact ⟨fun z => by rw [z], fun z => by cases z; rfl⟩
    · cases hv; exact ev_var rfl
    · replace h := h.1
      rw [List.filter_filter] at h
      have e : (upz zs d).filter (fun z => decide (z.1.what = .issue c) && isIss z) = (upz zs d).filter fun z => decide (z.1.what = .issue c) := by
        refine List.filter_congr fun z _ => ?_
        by_cases q : z.1.what = .issue c
        · rw [decide_eq_true q]; unfold isIss; rw [q]; rfl
        · rw [decide_eq_false q]; rfl
      rw [e] at h; exact h
end
end Wk
end
/-! ### GIss -/
section
set_option Elab.async false
set_option linter.all false
set_option maxRecDepth 100000
namespace Is
open LsEdit LsRefs
theorem before_irr : ∀ c : Sheet, before c c = false
  | [] => rfl
  | a :: r => by
    unfold before
    rw [before_irr r]; simp
theorem before_asymm : ∀ c d : Sheet, before c d = true → before d c = false
  | [], [], h => by cases h
  | [], _ :: _, _ => rfl
  | _ :: _, [], h => by cases h
  | a :: r, b :: s, h => by
    unfold before at h ⊢
    rw [Bool.or_eq_true, decide_eq_true_eq, Bool.and_eq_true, beq_iff_eq] at h
    rw [Bool.or_eq_false_iff, decide_eq_false_iff_not, Bool.and_eq_false_iff]
    rcases h with h | ⟨h1, h2⟩
    · exact ⟨by omega, .inl (by simp; omega)⟩
    · exact ⟨by omega, .inr (before_asymm r s h2)⟩
theorem before_trans : ∀ c d e : Sheet, before c d = true → before d e = true → before c e = true
  | [], [], _, h, _ => by cases h
  | [], _ :: _, [], _, h => by cases h
  | [], _ :: _, _ :: _, _, _ => rfl
  | _ :: _, [], _, h, _ => by cases h
  | _ :: _, _ :: _, [], _, h => by cases h
  | a :: r, b :: s, x :: t, h, k => by
    unfold before at h k ⊢
    rw [Bool.or_eq_true, decide_eq_true_eq, Bool.and_eq_true, beq_iff_eq] at h k ⊢
    rcases h with h | ⟨h1, h2⟩ <;> rcases k with k | ⟨k1, k2⟩
    · left; omega
    · left; omega
    · left; omega
    · exact .inr ⟨by omega, before_trans r s t h2 k2⟩
theorem before_tri : ∀ c d : Sheet, c ≠ d → before c d = false → before d c = true
  | [], [], h, _ => absurd rfl h
  | [], _ :: _, _, h => by cases h
  | _ :: _, [], _, _ => rfl
  | a :: r, b :: s, h, k => by
    unfold before at k ⊢
    rw [Bool.or_eq_false_iff, decide_eq_false_iff_not, Bool.and_eq_false_iff] at k
    rw [Bool.or_eq_true, decide_eq_true_eq, Bool.and_eq_true, beq_iff_eq]
    by_cases e : b < a
    · exact .inl e
    · have e2 : b = a := by omega
      subst e2
      right
      refine ⟨rfl, before_tri r s (fun z => h (by rw [z])) ?_⟩
      rcases k.2 with k | k
      · simp at k
      · exact k
theorem mem_insert {c x : Sheet} : ∀ {l : List Sheet}, x ∈ LsEdit.insert c l ↔ x = c ∨ x ∈ l
  | [] => by simp [LsEdit.insert]
  | d :: r => by
    unfold LsEdit.insert
    by_cases e : c = d
    · rw [if_pos e, e]; simp
    · rw [if_neg e]
      by_cases k : before c d = true
      · rw [if_pos k]; simp
      · rw [if_neg k, List.mem_cons, mem_insert, List.mem_cons]; exact or_left_comm
theorem ins_sorted {c : Sheet} : ∀ {l : List Sheet}, l.Pairwise (fun c d => before c d = true) → (LsEdit.insert c l).Pairwise fun c d => before c d = true
  | [], _ => by simp [LsEdit.insert]
  | d :: r, h => by
    obtain ⟨h1, h2⟩ := List.pairwise_cons.mp h
    unfold LsEdit.insert
    by_cases e : c = d
    · rw [if_pos e]; exact h
    · rw [if_neg e]
      by_cases k : before c d = true
      · rw [if_pos k]
        refine List.pairwise_cons.mpr ⟨fun x m => ?_, h⟩
        rcases List.mem_cons.mp m with rfl | m
        · exact k
        · exact before_trans _ _ _ k (h1 x m)
      · rw [if_neg k]
        refine List.pairwise_cons.mpr ⟨fun x m => ?_, ins_sorted h2⟩
        rcases mem_insert.mp m with rfl | m
        · exact before_tri _ _ e (by simpa using k)
        · exact h1 x m
def stp (s : List Sheet) (e : Entry) : List Sheet := match e.what with
  | .issue c => LsEdit.insert c s
  | _ => s
theorem issued_from : ∀ (l : Log) (s : List Sheet), s.Pairwise (fun c d => before c d = true) → (l.foldl stp s).Pairwise (fun c d => before c d = true) ∧ ∀ c, c ∈ l.foldl stp s ↔ c ∈ s ∨ ∃ e ∈ l, e.what = .issue c
  | [], s, h => by simpa using h
  | e :: r, s, h => by
    have hs : (stp s e).Pairwise fun c d => before c d = true := by
      unfold stp
      split
      · exact ins_sorted h
      · exact h
    obtain ⟨h1, h2⟩ := issued_from r (stp s e) hs
    refine ⟨h1, fun c => ?_⟩
    rw [List.foldl_cons, h2]
    have m : c ∈ stp s e ↔ c ∈ s ∨ e.what = .issue c := by
      unfold stp
      split
      · rename_i d hw
        rw [mem_insert, hw]
        constructor
        · rintro (rfl | h)
          · exact .inr rfl
          · exact .inl h
        · rintro (h | h)
          · exact .inr h
          · cases h; exact .inl rfl
      · rename_i hw
        constructor
        · exact .inl
        · rintro (h | h)
          · exact h
          · exact absurd h (hw c)
    rw [m]
    constructor
    · rintro ((h | h) | ⟨x, hx, h⟩)
      · exact .inl h
      · exact .inr ⟨e, List.mem_cons_self .., h⟩
      · exact .inr ⟨x, List.mem_cons_of_mem _ hx, h⟩
    · rintro (h | ⟨x, hx, h⟩)
      · exact .inl (.inl h)
      · rcases List.mem_cons.mp hx with rfl | hx
        · exact .inl (.inr h)
        · exact .inr ⟨x, hx, h⟩
theorem issued_ok (l : Log) : (issued l).Pairwise (fun c d => before c d = true) ∧ ∀ c, c ∈ issued l ↔ ∃ e ∈ l, e.what = .issue c := by
  obtain ⟨h1, h2⟩ := issued_from l [] .nil
  exact ⟨h1, fun c => by rw [show issued l = l.foldl stp [] from rfl, h2]; simp⟩
theorem sorted_uniq {a b : List Sheet} (ha : a.Pairwise fun c d => before c d = true) (hb : b.Pairwise fun c d => before c d = true) (h : ∀ c, c ∈ a ↔ c ∈ b) : a = b := by
  have n1 : a.Nodup := ha.imp fun {x y} h z => by subst z; rw [before_irr] at h; cases h
  have n2 : b.Nodup := hb.imp fun {x y} h z => by subst z; rw [before_irr] at h; cases h
  exact ((List.perm_ext_iff_of_nodup n1 n2).mpr h).eq_of_pairwise (le := fun (c d : Sheet) => before c d = true) (fun a b _ _ h1 h2 => by rw [before_asymm _ _ h1] at h2; cases h2) ha hb
end Is
end
/-! ### WLog3 -/
section
set_option Elab.async false
set_option linter.all false
set_option maxRecDepth 100000
set_option maxHeartbeats 2000000
namespace Wk
open PySem PySem.Spec PyProof.Rows L2
open LsGeo (Pt)
open LsRefs (Sheet)
open LsText (Bytes)
open LsLand (Feature Land)
open LsEdit (Log What)
/-! dicts by sheets -/
def shK (c : Sheet) : List Key := c.map fun (d : Nat) => (Sum.inl (d : Int) : Key)
def kvT (q : Sheet × Addr) : List Key × V := (shK q.1, .ref q.2)
theorem shK_inj {c d : Sheet} : shK c = shK d ↔ c = d := List.map_inj_right fun x y h => by have := Sum.inl.inj h; omega
theorem shK_V (c : Sheet) : (shK c).map kV = c.map fun (d : Nat) => V.int d := by
  unfold shK; rw [List.map_map]; rfl
theorem valT_in {c : Sheet} {a : Addr} : ∀ {qs : List (Sheet × Addr)}, (qs.map Prod.fst).Nodup → (c, a) ∈ qs → valV (qs.map kvT) (shK c) = some (.ref a)
  | [], _, h => by simp at h
  | p :: r, nd, h => by
    rw [List.map_cons, List.nodup_cons] at nd
    rw [List.map_cons]
    rcases List.mem_cons.mp h with rfl | h
    · exact valV_pos rfl
    · rw [valV_neg]
      · exact valT_in nd.2 h
      · intro z
        have z' : p.1 = c := shK_inj.mp z
        exact nd.1 (List.mem_map.mpr ⟨(c, a), h, z'.symm⟩)
theorem valT_out {c : Sheet} : ∀ {qs : List (Sheet × Addr)}, (∀ q ∈ qs, q.1 ≠ c) → valV (qs.map kvT) (shK c) = none
  | [], _ => rfl
  | p :: r, h => by
    rw [List.map_cons, valV_neg]
    · exact valT_out fun q hq => h q (List.mem_cons_of_mem _ hq)
    · intro z
      exact h p (List.mem_cons_self ..) (shK_inj.mp z)
theorem putT {qs : List (Sheet × Addr)} {c : Sheet} {a : Addr} (nd : (qs.map Prod.fst).Nodup) : ∃ qs' : List (Sheet × Addr), putK (qs.map kvT) (shK c) (.ref a) = qs'.map kvT ∧ (qs'.map Prod.fst).Nodup ∧ ∀ d b, (d, b) ∈ qs' ↔ (d = c ∧ b = a) ∨ (d ≠ c ∧ (d, b) ∈ qs) := by
  by_cases k : ∃ q ∈ qs, q.1 = c
  · obtain ⟨⟨c', b0⟩, hq, rfl⟩ := k
    refine ⟨qs.map fun q => if q.1 = c' then (c', a) else q, ?_, ?_, fun d b => ?_⟩
    · unfold putK
      rw [valV_any, valT_in nd hq]
      show List.map _ _ = _
      rw [List.map_map, List.map_map]
      refine List.map_congr_left fun p hp => ?_
      show (if shK p.1 = shK c' then (shK p.1, V.ref a) else kvT p) = kvT (if p.1 = c' then (c', a) else p)
      by_cases e : p.1 = c'
      · rw [if_pos (shK_inj.mpr e), if_pos e]
        unfold kvT; rw [e]
      · rw [if_neg (fun z => e (shK_inj.mp z)), if_neg e]
    · have e : ((qs.map fun q => if q.1 = c' then (c', a) else q).map Prod.fst) = qs.map Prod.fst := by
        rw [List.map_map]
        refine List.map_congr_left fun p hp => ?_
        show (if p.1 = c' then (c', a) else p).1 = p.1
        split
        · rename_i h; exact h.symm
        · rfl
      rw [e]; exact nd
    · rw [List.mem_map]
      constructor
      · rintro ⟨p, hp, e⟩
        split at e
        · cases e; exact .inl ⟨rfl, rfl⟩
        · rename_i h; subst e; exact .inr ⟨h, hp⟩
      · rintro (⟨rfl, rfl⟩ | ⟨h, hp⟩)
        · exact ⟨(d, b0), hq, by rw [if_pos rfl]⟩
        · exact ⟨(d, b), hp, by rw [if_neg h]⟩
  · have k' : ∀ q ∈ qs, q.1 ≠ c := fun q hq e => k ⟨q, hq, e⟩
    refine ⟨qs ++ [(c, a)], ?_, ?_, fun d b => ?_⟩
    · rw [putK_new _ (valT_out k'), List.map_append]; rfl
    · rw [List.map_append, List.nodup_append]
      refine ⟨nd, by simp, fun x hx y hy => ?_⟩
      obtain ⟨p, hp, rfl⟩ := List.mem_map.mp hx
      rw [List.map_singleton, List.mem_singleton] at hy
      subst hy
      exact k' p hp
    · rw [List.mem_append, List.mem_singleton]
      constructor
      · rintro (h | h)
        · exact .inr ⟨k' _ h, h⟩
        · cases h; exact .inl ⟨rfl, rfl⟩
      · rintro (⟨rfl, rfl⟩ | ⟨_, h⟩)
        · exact .inr rfl
        · exact .inl h
section
variable {P : Program} {w : World} {K : PySem.W.Frag} {mg : Str → Option Value} {base : Heap} {A : Ad} {σ : L2.St} {H B : Hp} {ta tb te to td ty tv : TE} {u : TS} {R Ra : RR} {N : L2.St → Hp → Prop} {L : Land} {z : En}
theorem s_newT {i : Nat} (s : Same B H) (k : ∀ p H1, H p = none → Same H H1 → Same B H1 → B p = none → H1 p = some (.dT []) → Run u (σ.set i (some (.ref p))) B H1 R N) : Run (tSeq (tAsg tDNewT (gName i)) u) σ B H R N := fun H1 e D q n =>
  fun p hp => k p _ (e.free hp) (e.trans (Same.new hp)) ((s.trans e).trans (Same.new hp)) ((s.trans e).free hp) upd_same _ (Same.refl _) D q n
theorem s_dputT {a b : Addr} {kvs : List (List Key × V)} {k : List Key} {v : V} (s : Same B H) (hB : B a = none) (ha : H a = some (.dT kvs)) (hd : EvP td σ H (isV (.ref a))) (hy : EvP ty σ H (isV (.ref b))) (hb : H b = some (.tup (k.map kV))) (hv : EvP tv σ H (isV v)) (hl : kvs.length < 1000000)
    (kk : ∀ H1, Same H H1 → Same B (upd H1 a (.dT (putK kvs k v))) → N σ (upd H1 a (.dT (putK kvs k v)))) : Run (sDPut td ty tv) σ B H R N := fun H1 e D q n =>
  hv H1 e _ fun x H2 e2 h1 => hd H2 (e.trans e2) _ fun y H3 e3 h2 => hy H3 ((e.trans e2).trans e3) _ fun w H4 e4 h3 => by
    cases h1; cases h2; cases h3
    have st := ((e.trans e2).trans e3).trans e4
    have sb := (s.trans st).mut (o := .dT (putK kvs k v)) hB
    exact ⟨a, _, rfl, DPut.t (st _ _ ha) (st _ _ hb) (sz_lt (by omega)), n _ _ sb (kk H4 st sb)⟩
def lastZ (zs : List En) (c : Sheet) : Option En := (zs.filter fun z => decide (z.1.what = .issue c)).getLast?
def RLat (zs : List En) : RR := fun v H => ∃ (p : Addr) (qs : List (Sheet × Addr)), v = .ref p ∧ H p = some (.dT (qs.map kvT)) ∧ (qs.map Prod.fst).Nodup ∧ ∀ c a, (c, a) ∈ qs ↔ ∃ z, lastZ zs c = some z ∧ a = z.2
instance (zs : List En) : Mono (RLat zs) := ⟨fun e ⟨a, qs, h1, h2, h3⟩ => ⟨a, qs, h1, e _ _ h2, h3⟩⟩
theorem lastZ_iss (zs : List En) (c : Sheet) : lastZ (zs.filter isIss) c = lastZ zs c := by
  unfold lastZ
  rw [List.filter_filter]
  congr 1
  refine List.filter_congr fun z _ => ?_
  by_cases q : z.1.what = .issue c
  · rw [decide_eq_true q]; unfold isIss; rw [q]; rfl
  · rw [decide_eq_false q]; rfl
def sp_Logbook_latest_editions (K : PySem.W.Frag) (A : Ad) : Sp := pure fun vs H R => ∃ (g ea : Addr) (zs : List En) (d : Nat), vs = [.ref g, .int d] ∧ LogP A H g ea zs ∧ GoodL (lg zs) ∧ R = RLat (upz zs d)
theorem ok_Logbook_latest_editions (T : Txt K mg A) (c_Logbook_issues : C8.Met P w K mg base 2 A.aLogbook "issues" (sp_Logbook_issues K A) []) {f : Addr} {fd : FuncData} (ME : Meth K A.aLogbook "latest_editions" f) (F : C8.Fun K "latest_editions" "Logbook.latest_editions" s_Logbook_latest_editions f fd) (bb : Binds K fd ["self", "day"] []) : C8.Met P w K mg base 3 A.aLogbook "latest_editions" (sp_Logbook_latest_editions K A) [] := by
  refine C8.met0 T.cl_Logbook ME F bb sc_Logbook_latest_editions (fun vs H Q E h => ?_) (fun cdv Ar outer s H vs Q E hr h => ?_)
  · obtain ⟨R, ⟨g, ea, zs, d, rfl, _⟩, _⟩ := h
    rfl
  · obtain ⟨R, ⟨g, ea, zs, d, rfl, hL, gd, rfl⟩, k⟩ := h
    obtain ⟨dx, h1, h2, h3⟩ := id hL
    have gl : zs.length ≤ 400 := by have := gd.len; unfold lg at this; rw [List.length_map] at this; exact this
    have ul := upz_len (zs := zs) (d := d)
    have il := List.length_filter_le isIss (upz zs d)
    refine ⟨_, (pss_cons (ps_set (i := 2) sc_Logbook_latest_editions.nd rfl (Or.inl rfl) (pe_dnewT)) (pss_cons (ps_for PassesOwn.never rfl (pi_list (C8.pe_mt c_Logbook_issues hr (by decide) (pv 0) (pa_cons (pv 1) pa_nil))) (pg_name (i := 3) sc_Logbook_latest_editions.nd rfl (Or.inl rfl)) (pss_one (ps_dput (hu_of hr) (pv 2) (pe_fld (pv 3) rfl) (pv 3) rfl))) (pss_one (ps_ret (pv 2))))), body (s_newT (Same.refl _) fun p H1 hp0 s1 sB1 hB hp => ?_) k⟩
    refine s_seq (M := fun σ' H' => ∃ v3, σ' = [some (.ref g), some (.int d), some (.ref p), v3] ∧ ∃ qs : List (Sheet × Addr), H' p = some (.dT (qs.map kvT)) ∧ (qs.map Prod.fst).Nodup ∧ ∀ c a, (c, a) ∈ qs ↔ ∃ z, lastZ ((upz zs d).filter isIss) c = some z ∧ a = z.2) (s_forM (p := p) (vs := ((upz zs d).filter isIss).map fun z => V.ref z.2) s1 hB ((e_meth (R := RLst RZ ((upz zs d).filter isIss)) (ev_var rfl) (s1 _ _ h1) (logFs_none (by decide +kernel)) (ea_v1 rfl) fun vs H2 e hv => ?_).imp fun v H2 e hv => ⟨rz_isL hv, fun z => ?_⟩)
      (fun i σ' H' => ∃ v3, σ' = [some (.ref g), some (.int d), some (.ref p), v3] ∧ ∃ qs : List (Sheet × Addr), H' p = some (.dT (qs.map kvT)) ∧ (qs.map Prod.fst).Nodup ∧ qs.length ≤ i ∧ ∀ c a, (c, a) ∈ qs ↔ ∃ z, lastZ (((upz zs d).filter isIss).take i) c = some z ∧ a = z.2) (fun H2 e => ⟨_, rfl, [], e _ _ hp, by simp, by simp, by simp [lastZ]⟩) (fun B' i x σ' H' hx sB srm hBp s' q => ?_) fun σ' H' sB srm q => ?_) fun σ' H' s' hM => ?_
    · cases hv
      exact ⟨g, ea, zs, d, rfl, (hL.mono s1).mono e, gd, rfl⟩
    · subst z
      obtain ⟨a, e1, vs, h4, _⟩ := hv
      cases e1
      rw [e _ _ hp] at h4; cases h4
    · obtain ⟨v3, rfl, qs, hq, nd, ql, hm⟩ := q
      rw [List.getElem?_map] at hx
      obtain ⟨z, hz, rfl⟩ := Option.map_eq_some_iff.mp hx
      obtain ⟨hzm, hzi⟩ := List.mem_filter.mp (List.mem_of_getElem? hz)
      obtain ⟨M, hM⟩ := h3.mem (List.mem_filter.mp hzm).1
      have sH := sB.trans s'
      obtain ⟨hi, _⟩ := List.getElem?_eq_some_iff.mp hz
      unfold EntAt at hM
      unfold isIss at hzi
      cases hw : z.1.what with
      | put f => rw [hw] at hzi; cases hzi
      | out n => rw [hw] at hzi; cases hzi
      | issue c =>
        rw [hw] at hM
        obtain ⟨dx2, sb, da, h4, h5, _⟩ := hM
        obtain ⟨qs', e1, e2, e3⟩ := putT (c := c) (a := z.2) nd
        refine s_dputT (a := p) (b := sb) (k := shK c) (v := .ref z.2) s' hBp hq (ev_var rfl) (e_fld (ev_var rfl) (sH _ _ h4) T.cl_Issue T.n_Issue_sheet issFs_sheet) (by rw [shK_V]; exact sH _ _ h5) (ev_var rfl) (by rw [List.length_map]; omega) fun H2 s2 sb2 => ⟨_, rfl, qs', by rw [upd_same, e1], e2, ?_, fun c' a' => ?_⟩
        · have l1 : (qs'.map kvT).length ≤ (qs.map kvT).length + 1 := by rw [← e1]; exact length_putK _ _ _
          rw [List.length_map, List.length_map] at l1; omega
        · rw [e3, hm]
          have tk : ((upz zs d).filter isIss).take (i + 1) = ((upz zs d).filter isIss).take i ++ [z] := by
            obtain ⟨hi, e⟩ := List.getElem?_eq_some_iff.mp hz
            rw [← List.take_append_getElem hi, e]
          rw [tk]
          unfold lastZ
          rw [List.filter_append]
          by_cases q : c' = c
          · subst q
            have f1 : [z].filter (fun z => decide (z.1.what = .issue c')) = [z] := by simp [hw]
            rw [f1, List.getLast?_concat]
            constructor
            · rintro (⟨_, rfl⟩ | ⟨h, _⟩)
              · exact ⟨z, rfl, rfl⟩
              · exact absurd rfl h
            · rintro ⟨y, e, rfl⟩; cases e; exact .inl ⟨rfl, rfl⟩
          · have f1 : [z].filter (fun z => decide (z.1.what = .issue c')) = [] := by
              rw [List.filter_cons, if_neg (by rw [hw]; simp; exact fun z => q z.symm)]; rfl
            rw [f1, List.append_nil]
            constructor
            · rintro (⟨h, _⟩ | ⟨_, h⟩)
              · exact absurd h q
              · exact h
            · intro h; exact .inr ⟨q, h⟩
    · obtain ⟨v3, rfl, qs, hq, nd, _, hm⟩ := q
      rw [List.length_map, List.take_length] at hm
      exact ⟨_, rfl, qs, hq, nd, hm⟩
    · obtain ⟨v3, rfl, qs, hq, nd, hm⟩ := hM
      refine s_ret s' ((ev_var rfl).imp fun v H2 e h => ?_)
      cases h
      exact ⟨p, qs, rfl, e _ _ hq, nd, fun c a => by rw [hm, lastZ_iss]⟩
/-! what changes things -/
theorem bodyN {t : TS} {σ : L2.St} {B H : Hp} {Q : VK} {N : L2.St → Hp → Prop} (h : Run t σ B H noR N) (q : ∀ σ' H', Same B H' → N σ' H' → Q .non H') : t { nx := fun _ H' => Q .non H', rt := Q } σ H :=
  h H (Same.refl _) _ (fun _ _ _ z => z.elim) q
theorem s_fld {x C dx : Addr} {fs : List (Str × V)} {f : Str} (s : Same B H) (hB : B x = none) (hx : H x = some (.ins C dx fs)) (cl : Cls K C) (na : NoAttr K C f) (hl : fs.length < 1000) (ho : EvP to σ H (isV (.ref x))) (hv : EvP tv σ H Ra) (k : ∀ v H1, Same H H1 → Ra v H1 → Run u σ B (upd H1 x (.ins C dx (putF f v fs))) R N) : Run (tSeq (sFld K to tv f) u) σ B H R N := fun H1 e D q n =>
  hv H1 e _ fun v H2 e2 h1 => ho H2 (e.trans e2) _ fun y H3 e3 h2 => by
    cases h2
    have e3' := (e.trans e2).trans e3
    refine ⟨x, C, dx, fs, rfl, e3' _ _ hx, cl, na, hl, ?_⟩
    have sup : Same (upd H2 x (.ins C dx (putF f v fs))) (upd H3 x (.ins C dx (putF f v fs))) := fun b w hb => by
      by_cases c : b = x
      · subst c; rw [upd_same] at hb ⊢; exact hb
      · rw [upd_ne c] at hb ⊢; exact e3 _ _ hb
    exact k v H2 (e.trans e2) h1 _ sup D q n
theorem s_fldN {x C dx : Addr} {fs : List (Str × V)} {f : Str} (s : Same B H) (hB : B x = none) (hx : H x = some (.ins C dx fs)) (cl : Cls K C) (na : NoAttr K C f) (hl : fs.length < 1000) (ho : EvP to σ H (isV (.ref x))) (hv : EvP tv σ H Ra) (k : ∀ v H1 H2, Same H H1 → Ra v H1 → Same H1 H2 → N σ (upd H2 x (.ins C dx (putF f v fs)))) : Run (sFld K to tv f) σ B H R N := fun H1 e D q n =>
  hv H1 e _ fun v H2 e2 h1 => ho H2 (e.trans e2) _ fun y H3 e3 h2 => by
    cases h2
    have e3' := (e.trans e2).trans e3
    exact ⟨x, C, dx, fs, rfl, e3' _ _ hx, cl, na, hl, n _ _ ((s.trans e3').mut hB) (k v H2 H3 (e.trans e2) h1 e3)⟩
def mkSp (C : Addr) (m : Nat) (F : List V → List (Str × V)) : Sp := fun vs H Q _ => ∃ x dx ws, vs = .ref x :: ws ∧ ws.length = m ∧ H x = some (.ins C dx []) ∧ ∀ H', Same (rm H x) H' → H' x = some (.ins C dx (F ws)) → Q .non H'
def putF4 (ws : List V) : List (Str × V) := [("day", ws.getD 0 .non), ("number", ws.getD 1 .non), ("feature", ws.getD 2 .non), ("was", ws.getD 3 .non)]
def outF2 (ws : List V) : List (Str × V) := [("day", ws.getD 0 .non), ("number", ws.getD 1 .non)]
def issF3 (ws : List V) : List (Str × V) := [("day", ws.getD 0 .non), ("sheet", ws.getD 1 .non), ("features", ws.getD 2 .non)]
def sp_Put_init (K : PySem.W.Frag) (A : Ad) : Sp := mkSp A.aPut 4 putF4
def sp_Out_init (K : PySem.W.Frag) (A : Ad) : Sp := mkSp A.aOut 2 outF2
def sp_Issue_init (K : PySem.W.Frag) (A : Ad) : Sp := mkSp A.aIssue 3 issF3
theorem putF_put {a b c d : V} : putF "was" d (putF "feature" c (putF "number" b (putF "day" a []))) = putF4 [a, b, c, d] := by
  show putF "was" d (putF "feature" c (putF "number" b [("day", a)])) = _
  rw [put_past (by decide +kernel)]
  show putF "was" d (putF "feature" c [("day", a), ("number", b)]) = _
  rw [put_past (by decide +kernel), put_past (by decide +kernel)]
  show putF "was" d [("day", a), ("number", b), ("feature", c)] = _
  rw [put_past (by decide +kernel), put_past (by decide +kernel), put_past (by decide +kernel)]
  rfl
theorem putF_iss {a b c : V} : putF "features" c (putF "sheet" b (putF "day" a [])) = issF3 [a, b, c] := by
  show putF "features" c (putF "sheet" b [("day", a)]) = _
  rw [put_past (by decide +kernel)]
  show putF "features" c [("day", a), ("sheet", b)] = _
  rw [put_past (by decide +kernel), put_past (by decide +kernel)]
  rfl
theorem putF_out {a b : V} : putF "number" b (putF "day" a []) = outF2 [a, b] := by
  show putF "number" b [("day", a)] = _
  rw [put_past (by decide +kernel)]
  rfl
theorem putF_len (f : Str) (v : V) : ∀ fs : List (Str × V), (putF f v fs).length ≤ fs.length + 1
  | [] => by simp [putF]
  | (g, x) :: r => by
    have := putF_len f v r
    unfold putF
    split
    · simp
    · simp; omega
theorem ok_Put_init (T : Txt K mg A)  {f : Addr} {fd : FuncData} (MM : Mk K A.aPut f) (F : C8.Fun K "__init__" "Put.__init__" s_Put_init f fd) (bb : Binds K fd ["self", "day", "number", "feature", "was"] []) : C8.Mak P w K mg base 1 "Put" A.aPut (sp_Put_init K A) [] := by
  refine C8.mak0 MM (gref T.g_Put) F bb .nil sc_Put_init (fun vs H Q E h => ?_) (fun cdv Ar outer s H vs Q E hr h => ?_)
  · obtain ⟨x, dx, ws, rfl, h4, _⟩ := h
    simp [h4]
  · obtain ⟨x, dx, ws, rfl, h4, hx, k⟩ := h
    obtain ⟨a, b, c, d, rfl⟩ : ∃ a b c d, ws = [a, b, c, d] := by
      match ws, h4 with
      | [a, b, c, d], _ => exact ⟨a, b, c, d, rfl⟩
    refine ⟨_, (pss_cons (ps_fld (pv 0) (pv 1) rfl) (pss_cons (ps_fld (pv 0) (pv 2) rfl) (pss_cons (ps_fld (pv 0) (pv 3) rfl) (pss_one (ps_fld (pv 0) (pv 4) rfl))))), bodyN (B := rm H x) (N := fun _ H' => H' x = some (.ins A.aPut dx (putF4 [a, b, c, d]))) (s_fld rm_same rm_at hx T.cl_Put T.n_Put_day (by decide) (ev_var rfl) (ev_var rfl) fun v H1 s1 hv => ?_) fun σ' H' s h => k H' s h⟩
    cases hv
    refine s_fld (rm_same.trans s1 |>.mut rm_at) rm_at upd_same T.cl_Put T.n_Put_number (Nat.lt_of_le_of_lt (putF_len _ _ _) (by decide)) (ev_var rfl) (ev_var rfl) fun v H2 s2 hv => ?_
    cases hv
    have z2 : Same (rm H x) H2 := (rm_same.trans s1 |>.mut rm_at).trans s2
    refine s_fld (z2.mut rm_at) rm_at upd_same T.cl_Put T.n_Put_feature (Nat.lt_of_le_of_lt (putF_len _ _ _) (Nat.lt_of_le_of_lt (Nat.succ_le_succ (putF_len _ _ _)) (by decide))) (ev_var rfl) (ev_var rfl) fun v H3 s3 hv => ?_
    cases hv
    have z3 : Same (rm H x) H3 := (z2.mut rm_at).trans s3
    refine s_fldN (z3.mut rm_at) rm_at upd_same T.cl_Put T.n_Put_was (Nat.lt_of_le_of_lt (putF_len _ _ _) (Nat.lt_of_le_of_lt (Nat.succ_le_succ (Nat.le_trans (putF_len _ _ _) (Nat.succ_le_succ (putF_len _ _ _)))) (by decide))) (ev_var rfl) (ev_var rfl) fun v H4 H5 s4 hv s5 => ?_
    cases hv
    rw [upd_same, putF_put]
theorem ok_Out_init (T : Txt K mg A)  {f : Addr} {fd : FuncData} (MM : Mk K A.aOut f) (F : C8.Fun K "__init__" "Out.__init__" s_Out_init f fd) (bb : Binds K fd ["self", "day", "number"] []) : C8.Mak P w K mg base 1 "Out" A.aOut (sp_Out_init K A) [] := by
  refine C8.mak0 MM (gref T.g_Out) F bb .nil sc_Out_init (fun vs H Q E h => ?_) (fun cdv Ar outer s H vs Q E hr h => ?_)
  · obtain ⟨x, dx, ws, rfl, h4, _⟩ := h
    simp [h4]
  · obtain ⟨x, dx, ws, rfl, h4, hx, k⟩ := h
    obtain ⟨a, b, rfl⟩ : ∃ a b, ws = [a, b] := by
      match ws, h4 with
      | [a, b], _ => exact ⟨a, b, rfl⟩
    refine ⟨_, (pss_cons (ps_fld (pv 0) (pv 1) rfl) (pss_one (ps_fld (pv 0) (pv 2) rfl))), bodyN (B := rm H x) (N := fun _ H' => H' x = some (.ins A.aOut dx (outF2 [a, b]))) (s_fld rm_same rm_at hx T.cl_Out T.n_Out_day (by decide) (ev_var rfl) (ev_var rfl) fun v H1 s1 hv => ?_) fun σ' H' s h => k H' s h⟩
    cases hv
    refine s_fldN (rm_same.trans s1 |>.mut rm_at) rm_at upd_same T.cl_Out T.n_Out_number (Nat.lt_of_le_of_lt (putF_len _ _ _) (by decide)) (ev_var rfl) (ev_var rfl) fun v H2 H3 s2 hv s3 => ?_
    cases hv
    rw [upd_same, putF_out]
theorem ok_Issue_init (T : Txt K mg A)  {f : Addr} {fd : FuncData} (MM : Mk K A.aIssue f) (F : C8.Fun K "__init__" "Issue.__init__" s_Issue_init f fd) (bb : Binds K fd ["self", "day", "sheet", "features"] []) : C8.Mak P w K mg base 1 "Issue" A.aIssue (sp_Issue_init K A) [] := by
  refine C8.mak0 MM (gref T.g_Issue) F bb .nil sc_Issue_init (fun vs H Q E h => ?_) (fun cdv Ar outer s H vs Q E hr h => ?_)
  · obtain ⟨x, dx, ws, rfl, h4, _⟩ := h
    simp [h4]
  · obtain ⟨x, dx, ws, rfl, h4, hx, k⟩ := h
    obtain ⟨a, b, c, rfl⟩ : ∃ a b c, ws = [a, b, c] := by
      match ws, h4 with
      | [a, b, c], _ => exact ⟨a, b, c, rfl⟩
    refine ⟨_, (pss_cons (ps_fld (pv 0) (pv 1) rfl) (pss_cons (ps_fld (pv 0) (pv 2) rfl) (pss_one (ps_fld (pv 0) (pv 3) rfl)))), bodyN (B := rm H x) (N := fun _ H' => H' x = some (.ins A.aIssue dx (issF3 [a, b, c]))) (s_fld rm_same rm_at hx T.cl_Issue T.n_Issue_day (by decide) (ev_var rfl) (ev_var rfl) fun v H1 s1 hv => ?_) fun σ' H' s h => k H' s h⟩
    cases hv
    refine s_fld (rm_same.trans s1 |>.mut rm_at) rm_at upd_same T.cl_Issue T.n_Issue_sheet (Nat.lt_of_le_of_lt (putF_len _ _ _) (by decide)) (ev_var rfl) (ev_var rfl) fun v H2 s2 hv => ?_
    cases hv
    have z2 : Same (rm H x) H2 := (rm_same.trans s1 |>.mut rm_at).trans s2
    refine s_fldN (z2.mut rm_at) rm_at upd_same T.cl_Issue T.n_Issue_features (Nat.lt_of_le_of_lt (putF_len _ _ _) (Nat.lt_of_le_of_lt (Nat.succ_le_succ (putF_len _ _ _)) (by decide))) (ev_var rfl) (ev_var rfl) fun v H4 H5 s4 hv s5 => ?_
    cases hv
    rw [upd_same, putF_iss]
def sp_Logbook_init (K : PySem.W.Frag) (A : Ad) : Sp := fun vs H Q _ => ∃ x dx, vs = [.ref x] ∧ H x = some (.ins A.aLogbook dx []) ∧ ∀ H' ea, Same (rm H x) H' → H' x = some (.ins A.aLogbook dx [("entries", .ref ea)]) → H' ea = some (.lst []) → H ea = none → Q .non H'
theorem ok_Logbook_init (T : Txt K mg A)  {f : Addr} {fd : FuncData} (MM : Mk K A.aLogbook f) (F : C8.Fun K "__init__" "Logbook.__init__" s_Logbook_init f fd) (bb : Binds K fd ["self"] []) : C8.Mak P w K mg base 1 "Logbook" A.aLogbook (sp_Logbook_init K A) [] := by
  refine C8.mak0 MM (gref T.g_Logbook) F bb .nil sc_Logbook_init (fun vs H Q E h => ?_) (fun cdv Ar outer s H vs Q E hr h => ?_)
  · obtain ⟨x, dx, rfl, _⟩ := h
    rfl
  · obtain ⟨x, dx, rfl, hx, k⟩ := h
    refine ⟨_, (pss_one (ps_fld (pv 0) (pe_lst pa_nil) rfl)), bodyN (B := rm H x) (N := fun _ H' => ∃ ea, H' x = some (.ins A.aLogbook dx [("entries", .ref ea)]) ∧ H' ea = some (.lst []) ∧ H ea = none) (s_fldN rm_same rm_at hx T.cl_Logbook T.n_Logbook_entries (by decide) (ev_var rfl) (e_lstF ea_nil (by decide)) fun v H1 H2 s1 hv s2 => ?_) fun σ' H' s ⟨ea, h1, h2, h3⟩ => k H' ea s h1 h2 h3⟩
    obtain ⟨ea, rfl, h1, h2⟩ := hv
    refine ⟨ea, by rw [upd_same]; rfl, ?_, h2⟩
    rw [upd_ne (fun z => by rw [z, hx] at h2; cases h2)]
    exact s2 _ _ h1
theorem LstAt.rmI {H : Hp} {a d C dx : Addr} {ps : List Pt} {fs : List (Str × V)} (h : LstAt RPt H a ps) (e : H d = some (.ins C dx fs)) : LstAt RPt (rm H d) a ps := by
  obtain ⟨vs, h3, h4⟩ := h
  refine ⟨vs, rm_ne h3 (ne_of h3 e (by intro z; cases z)), h4.monoP fun v x q => ?_⟩
  obtain ⟨b, rfl, hb⟩ := q
  exact ⟨b, rfl, rm_ne hb (ne_of hb e (by intro z; cases z))⟩
def sp_Feature_init (K : PySem.W.Frag) (A : Ad) : Sp := fun vs H Q _ => ∃ (x dx : Addr) (c : Int) (na : Addr) (k : Int) (pa : Addr) (ps : List Pt), vs = [.ref x, .int c, .ref na, .int k, .ref pa] ∧ H x = some (.ins A.aFeature dx []) ∧ LstAt RPt H pa ps ∧ ps.length ≤ 1000 ∧ ps ≠ [] ∧
  ∀ H' ba, Same (rm H x) H' → H' x = some (.ins A.aFeature dx (ftF c na k pa ba)) → GAt H' ba (boxP ps) → Q .non H'
theorem ok_Feature_init (T : Txt K mg A) (c_box_of : C8.Cal P w K mg base 1 "box_of" (sp_box_of K A) []) {f : Addr} {fd : FuncData} (MM : Mk K A.aFeature f) (F : C8.Fun K "__init__" "Feature.__init__" s_Feature_init f fd) (bb : Binds K fd ["self", "group", "name", "kind", "places"] []) : C8.Mak P w K mg base 2 "Feature" A.aFeature (sp_Feature_init K A) [] := by
  refine C8.mak0 MM (gref T.g_Feature) F bb .nil sc_Feature_init (fun vs H Q E h => ?_) (fun cdv Ar outer s H vs Q E hr h => ?_)
  · obtain ⟨x, dx, c, na, k, pa, ps, rfl, _⟩ := h
    rfl
  · obtain ⟨x, dx, c, na, kd, pa, ps, rfl, hx, hP, hl, hne, k⟩ := h
    have hPr := hP.rmI hx
    refine ⟨_, (pss_cons (ps_fld (pv 0) (pv 1) rfl) (pss_cons (ps_fld (pv 0) (pv 2) rfl) (pss_cons (ps_fld (pv 0) (pv 3) rfl) (pss_cons (ps_fld (pv 0) (pv 4) rfl) (pss_one (ps_fld (pv 0) (C8.pe_c c_box_of hr (by decide) rfl (pa_cons (pv 4) pa_nil)) rfl)))))), bodyN (B := rm H x) (N := fun _ H' => ∃ ba, H' x = some (.ins A.aFeature dx (ftF c na kd pa ba)) ∧ GAt H' ba (boxP ps)) (s_fld rm_same rm_at hx T.cl_Feature T.n_Feature_group (by decide) (ev_var rfl) (ev_var rfl) fun v H1 s1 hv => ?_) fun σ' H' s ⟨ba, h1, h2⟩ => k H' ba s h1 h2⟩
    cases hv
    have n1 : (putF ("group" : Str) (.int c) []).length ≤ 1 := putF_len _ _ _
    refine s_fld (rm_same.trans s1 |>.mut rm_at) rm_at upd_same T.cl_Feature T.n_Feature_name (by omega) (ev_var rfl) (ev_var rfl) fun v H2 s2 hv => ?_
    cases hv
    have n2 := putF_len ("name" : Str) (.ref na) (putF ("group" : Str) (.int c) [])
    have z2 : Same (rm H x) H2 := (rm_same.trans s1 |>.mut rm_at).trans s2
    refine s_fld (z2.mut rm_at) rm_at upd_same T.cl_Feature T.n_Feature_kind (by omega) (ev_var rfl) (ev_var rfl) fun v H3 s3 hv => ?_
    cases hv
    have n3 := putF_len ("kind" : Str) (.int kd) (putF ("name" : Str) (.ref na) (putF ("group" : Str) (.int c) []))
    have z3 : Same (rm H x) H3 := (z2.mut rm_at).trans s3
    refine s_fld (z3.mut rm_at) rm_at upd_same T.cl_Feature T.n_Feature_places (by omega) (ev_var rfl) (ev_var rfl) fun v H4 s4 hv => ?_
    cases hv
    have n4 := putF_len ("places" : Str) (.ref pa) (putF ("kind" : Str) (.int kd) (putF ("name" : Str) (.ref na) (putF ("group" : Str) (.int c) [])))
    have z4 : Same (rm H x) H4 := (z3.mut rm_at).trans s4
    have z5 := z4.mut (o := .ins A.aFeature dx (putF "places" (.ref pa) (putF "kind" (.int kd) (putF "name" (.ref na) (putF "group" (.int c) []))))) (rm_at (H := H) (a := x))
    refine s_fldN z5 rm_at upd_same T.cl_Feature T.n_Feature_box (by omega) (ev_var rfl) (e_callV (R := isB (boxP ps)) (ea_v1 rfl) fun H5 e => ⟨pa, ps, rfl, (hPr.mono z5).mono e, hl, hne, rfl⟩) fun v H5 H6 s5 hv s6 => ?_
    obtain ⟨ba, rfl, hb⟩ := hv
    have hx5 := s5 _ _ upd_same
    refine ⟨ba, by rw [upd_same, ftF_new], ?_⟩
    show upd _ _ _ ba = _
    rw [upd_ne (fun z => by rw [z, hx5] at hb; cases hb)]
    exact s6 _ _ hb
def sp_Logbook_enter (K : PySem.W.Frag) (A : Ad) : Sp := fun vs H Q _ => ∃ (g dx ea : Addr) (xs : List V) (v : V), vs = [.ref g, v] ∧ H g = some (.ins A.aLogbook dx [("entries", .ref ea)]) ∧ H ea = some (.lst xs) ∧ xs.length < 1000 ∧ ∀ H', Same (rm H ea) H' → H' ea = some (.lst (xs ++ [v])) → Q .non H'
theorem ok_Logbook_enter (T : Txt K mg A)  {f : Addr} {fd : FuncData} (ME : Meth K A.aLogbook "enter" f) (F : C8.Fun K "enter" "Logbook.enter" s_Logbook_enter f fd) (bb : Binds K fd ["self", "entry"] []) : C8.Met P w K mg base 1 A.aLogbook "enter" (sp_Logbook_enter K A) [] := by
  refine C8.met0 T.cl_Logbook ME F bb sc_Logbook_enter (fun vs H Q E h => ?_) (fun cdv Ar outer s H vs Q E hr h => ?_)
  · obtain ⟨g, dx, ea, xs, v, rfl, _⟩ := h
    rfl
  · obtain ⟨g, dx, ea, xs, v, rfl, hg, hea, hl, k⟩ := h
    refine ⟨_, (pss_one (ps_expr (pe_bm PySem.F.plainAttrs_list PySem.F.slot_list_append PySem.F.type_list_append mt_append (pe_fld (pv 0) rfl) (pa_cons (pv 1) pa_nil)))), bodyN (B := rm H ea) (N := fun _ H' => H' ea = some (.lst (xs ++ [v]))) (s_appN rm_same rm_at hea (e_fld (ev_var rfl) hg T.cl_Logbook T.n_Logbook_entries lk_here) (ev_var rfl) (by omega) fun v H1 s1 hv sb => ?_) fun σ' H' s h => k H' s h⟩
    cases hv
    rw [upd_same]
def sp_Logbook_take_back (K : PySem.W.Frag) (A : Ad) : Sp := fun vs H Q _ => ∃ (g dx ea : Addr) (xs : List V), vs = [.ref g] ∧ H g = some (.ins A.aLogbook dx [("entries", .ref ea)]) ∧ H ea = some (.lst xs) ∧ xs ≠ [] ∧ ∀ H', Same (rm H ea) H' → H' ea = some (.lst xs.dropLast) → Q .non H'
theorem s_popN {l : Addr} {xs : List V} (s : Same B H) (hB : B l = none) (hl : H l = some (.lst xs)) (ho : EvP to σ H (isV (.ref l))) (hne : xs ≠ []) (k : ∀ H1, Same H H1 → N σ (upd H1 l (.lst xs.dropLast))) : Run (tDrop (tBM0 K "list" rPop to)) σ B H R N := fun H1 e D q n =>
  ho H1 e _ fun v1 H2 e2 h1 => by
    cases h1
    have g := (e.trans e2) _ _ hl
    have := List.length_pos_iff.mpr hne
    exact ⟨.inl ⟨rfl, xs, SqL.of g⟩, l, xs, xs[xs.length - 1]'(by omega), rfl, rfl, g, List.getElem?_eq_getElem (by omega), n _ _ ((s.trans (e.trans e2)).mut hB) (k H2 (e.trans e2))⟩
theorem ok_Logbook_take_back (T : Txt K mg A)  {f : Addr} {fd : FuncData} (ME : Meth K A.aLogbook "take_back" f) (F : C8.Fun K "take_back" "Logbook.take_back" s_Logbook_take_back f fd) (bb : Binds K fd ["self"] []) : C8.Met P w K mg base 1 A.aLogbook "take_back" (sp_Logbook_take_back K A) [] := by
  refine C8.met0 T.cl_Logbook ME F bb sc_Logbook_take_back (fun vs H Q E h => ?_) (fun cdv Ar outer s H vs Q E hr h => ?_)
  · obtain ⟨g, dx, ea, xs, rfl, _⟩ := h
    rfl
  · obtain ⟨g, dx, ea, xs, rfl, hg, hea, hne, k⟩ := h
    refine ⟨_, (pss_one (ps_expr (pe_bm0 PySem.F.plainAttrs_list PySem.F.slot_list_pop PySem.F.type_list_pop mt_pop (pe_fld (pv 0) rfl)))), bodyN (B := rm H ea) (N := fun _ H' => H' ea = some (.lst xs.dropLast)) (s_popN rm_same rm_at hea (e_fld (ev_var rfl) hg T.cl_Logbook T.n_Logbook_entries lk_here) hne fun H1 s1 => ?_) fun σ' H' s h => k H' s h⟩
    rw [upd_same]
end
end Wk
end
/-! ### WTell1 -/
section
set_option Elab.async false
set_option linter.all false
set_option maxRecDepth 100000
set_option maxHeartbeats 2000000
namespace Wk
open PySem PySem.Spec PyProof.Rows L2
open LsGeo (Pt)
open LsRefs (Sheet)
open LsText (Bytes)
open LsLand (Feature Land)
open LsEdit (Log What)
theorem told_eq (a : LsAns.Ans) : LsRows.told a = a.ret :: (a.nums ++ nb a.bytes) := rfl
theorem len1 {α : Type} {l : List α} (h : l.length = 1) : ∃ a, l = [a] := by
  match l, h with
  | [a], _ => exact ⟨a, rfl⟩
theorem len2 {α : Type} {l : List α} (h : l.length = 2) : ∃ a b, l = [a, b] := by
  match l, h with
  | [a, b], _ => exact ⟨a, b, rfl⟩
theorem len4 {α : Type} {l : List α} (h : l.length = 4) : ∃ a b c d, l = [a, b, c, d] := by
  match l, h with
  | [a, b, c, d], _ => exact ⟨a, b, c, d, rfl⟩
theorem told_says (z : Int) : LsRows.told (LsAns.says z) = [z] := rfl
theorem t_land (l : Log) (d : Nat) : EditSpec.told l (.land d) = (if EditSpec.isDay d = false then LsAns.says (-1) else LsAns.tells ((LsEdit.landOf (LsEdit.upTo l d)).length : Int) ((LsEdit.landOf (LsEdit.upTo l d)).map fun (f : Feature) => (f.number : Int))) := rfl
theorem t_feature (l : Log) (d n : Nat) : EditSpec.told l (.feature d n) = (if EditSpec.isDay d = false ∨ EditSpec.isNumber n = false then LsAns.says (-1) else (match LsLand.find (LsEdit.landOf (LsEdit.upTo l d)) n with
    | none => LsAns.says (-4)
    | some f => ⟨0, LsAns.ints [f.cls, EditSpec.kindOf f.shape, f.shape.places.length] ++ EditSpec.coords f.shape.places, f.name⟩)) := rfl
theorem t_text (l : Log) (c : Bytes) (k : Nat) : EditSpec.told l (.text c k) = EditSpec.ofCode c (k == 0) fun (s : Sheet) => match (LsEdit.editions l s)[k - 1]? with
    | none => LsAns.says (-4)
    | some e => LsAns.gives (LsEdit.sheetText s k e.day e.land) := rfl
theorem t_now (l : Log) (c : Bytes) (d : Nat) : EditSpec.told l (.now c d) = EditSpec.ofCode c (!EditSpec.isDay d) fun (s : Sheet) => LsAns.gives (LsEdit.sheetText s ((LsEdit.editions (LsEdit.upTo l d) s).length + 1) d (LsEdit.onSheet (LsEdit.landOf (LsEdit.upTo l d)) s)) := rfl
theorem t_old (l : Log) (c : Bytes) (d : Nat) : EditSpec.told l (.old c d) = EditSpec.ofCode c (!EditSpec.isDay d) fun (s : Sheet) => if (LsEdit.latest l s d).isNone = true then LsAns.says (-4) else LsAns.says (if LsEdit.isOld l d s = true then 1 else 0) := rfl
theorem t_olds (l : Log) (d : Nat) : EditSpec.told l (.olds d) = (if EditSpec.isDay d = false then LsAns.says (-1) else EditSpec.codesAns ((LsEdit.issued (LsEdit.upTo l d)).filter (LsEdit.isOld l d))) := rfl
theorem t_changes (l : Log) (c : Bytes) (d : Nat) : EditSpec.told l (.changes c d) = EditSpec.ofCode c (!EditSpec.isDay d) fun (s : Sheet) => match LsEdit.latest l s d with
    | none => LsAns.says (-4)
    | some e => EditSpec.rows (LsEdit.changed e.land (LsEdit.onSheet (LsEdit.landOf (LsEdit.upTo l d)) s)) := rfl
theorem t_history (l : Log) (n : Nat) : EditSpec.told l (.history n) = (if EditSpec.isNumber n = false then LsAns.says (-1) else EditSpec.rows (LsEdit.historyFrom n [] l)) := rfl
theorem t_editions (l : Log) (c : Bytes) : EditSpec.told l (.editions c) = EditSpec.ofCode c false fun (s : Sheet) => LsAns.tells ((LsEdit.editions l s).length : Int) ((LsEdit.editions l s).map fun (e : LsEdit.Edition) => (e.day : Int)) := rfl
theorem t_torn (l : Log) (c e : Bytes) : EditSpec.told l (.torn c e) = (if EditSpec.CODE < c.length ∨ EditSpec.CODE < e.length then LsAns.says (-2) else EditSpec.ofCode c false fun (s : Sheet) => EditSpec.ofCode e false fun (t : Sheet) => match (LsEdit.editions l s).getLast?, (LsEdit.editions l t).getLast? with
    | some u, some v => LsAns.tells ((LsEdit.torn u.land v.land).length : Int) (LsAns.ints (LsEdit.torn u.land v.land))
    | _, _ => LsAns.says (-4)) := rfl
theorem t_last (l : Log) : EditSpec.told l .last = LsAns.tells 0 (LsAns.ints [LsEdit.lastDay l, l.length]) := rfl
theorem refP_nil (b : Bool) : refP b [] = if b = false then [-1] else [] := by cases b <;> rfl
theorem fault_err {b : Bytes} {p : Nat} (h : LsRefs.readCode b = .error p) : Tx.faultOf b = p := by unfold Tx.faultOf; rw [h]
theorem fault_okc {b : Bytes} {s : Sheet} (h : LsRefs.readCode b = .ok s) : Tx.faultOf b = -1 := by unfold Tx.faultOf; rw [h]
theorem ofCode_cases (c : Bytes) (bad : Bool) (f : Sheet → LsAns.Ans) : ((refP (!bad) [c]).length ≠ 0 ∧ LsRows.told (EditSpec.ofCode c bad f) = refP (!bad) [c]) ∨ ((refP (!bad) [c]).length = 0 ∧ bad = false ∧ ∃ s, LsRefs.readCode c = .ok s ∧ EditSpec.ofCode c bad f = f s ∧ c.length ≤ 32) := by
  unfold EditSpec.ofCode refP EditSpec.CODE
  by_cases h1 : 32 < c.length
  · left
    rw [if_pos h1, if_pos (by simp [h1])]
    exact ⟨by simp, rfl⟩
  · rw [if_neg h1, if_neg (by simp; omega)]
    cases bad with
    | true => left; exact ⟨by simp, rfl⟩
    | false =>
      cases hr : LsRefs.readCode c with
      | error p =>
        left
        have e := fault_err hr
        simp [e]
        rfl
      | ok s =>
        right
        have e := fault_okc hr
        simp [e]
        omega
theorem torn_cases (c e : Bytes) (f : Sheet → Sheet → LsAns.Ans) : ((refP true [c, e]).length ≠ 0 ∧ LsRows.told (if EditSpec.CODE < c.length ∨ EditSpec.CODE < e.length then LsAns.says (-2) else EditSpec.ofCode c false fun (s : Sheet) => EditSpec.ofCode e false fun (t : Sheet) => f s t) = refP true [c, e]) ∨
    ((refP true [c, e]).length = 0 ∧ ∃ s t, LsRefs.readCode c = .ok s ∧ LsRefs.readCode e = .ok t ∧ (if EditSpec.CODE < c.length ∨ EditSpec.CODE < e.length then LsAns.says (-2) else EditSpec.ofCode c false fun (s : Sheet) => EditSpec.ofCode e false fun (t : Sheet) => f s t) = f s t ∧ c.length ≤ 32 ∧ e.length ≤ 32) := by
  unfold EditSpec.ofCode refP EditSpec.CODE
  by_cases h1 : 32 < c.length ∨ 32 < e.length
  · left
    rw [if_pos h1, if_pos (by simpa using h1)]
    exact ⟨by simp, rfl⟩
  · have n1 : ¬ 32 < c.length := fun z => h1 (.inl z)
    have n2 : ¬ 32 < e.length := fun z => h1 (.inr z)
    rw [if_neg h1, if_neg (by simp; omega), if_neg n1]
    cases hr : LsRefs.readCode c with
    | error p =>
      left
      have e1 := fault_err hr
      simp [e1]
      rfl
    | ok s =>
      have e1 := fault_okc hr
      cases ht : LsRefs.readCode e with
      | error p =>
        left
        have e2 := fault_err ht
        simp [e1, e2, n2]
        rfl
      | ok t =>
        right
        have e2 := fault_okc ht
        simp [e1, e2, n2]
        omega
section
variable {P : Program} {w : World} {K : PySem.W.Frag} {mg : Str → Option Value} {base : Heap} {A : Ad} {σ : L2.St} {H B : Hp} {ta tb te to td ty tv : TE} {u : TS} {R Ra : RR} {N : L2.St → Hp → Prop} {L : Land} {z : En} {c : Sheet} {x : LsEdit.Edition}
theorem e_featR (T : Txt K mg A) (h : EvP te σ H (REd A c x)) : EvP (tFld K te "features") σ H (RLand A x.land) := fun H1 e Q q =>
  h H1 e _ fun v H2 e2 hv => by
    obtain ⟨a, rfl, dx, sa, da, h1, h2, h3⟩ := hv
    exact ⟨a, A.aIssue, dx, _, _, rfl, h1, T.cl_Issue, T.n_Issue_features, issFs_features, q _ H2 e2 ⟨da, rfl, h3⟩⟩
theorem e_dayR (T : Txt K mg A) (h : EvP te σ H (REd A c x)) : EvP (tFld K te "day") σ H (isV (.int x.day)) := fun H1 e Q q =>
  h H1 e _ fun v H2 e2 hv => by
    obtain ⟨a, rfl, dx, sa, da, h1, h2, h3⟩ := hv
    exact ⟨a, A.aIssue, dx, _, _, rfl, h1, T.cl_Issue, T.n_Issue_day, issFs_day, q _ H2 e2 rfl⟩
/-- a, b = l -/
theorem s_unl2 {i j : Nat} {a : Addr} {x y : V} (h : EvP te σ H (isV (.ref a))) (hl : H a = some (.lst [x, y])) (k : ∀ H1, Same H H1 → Run u ((σ.set i (some x)).set j (some y)) B H1 R N) : Run (tSeq (tAsg te (gUnl K 2 (gCons (gName i) (gCons (gName j) gNil)))) u) σ B H R N := fun H1 e D q n =>
  h H1 e _ fun v H2 e2 hv => ⟨a, [x, y], hv, SqL.of ((e.trans e2) _ _ hl), rfl, x, [y], rfl, y, [], rfl, rfl, k H2 (e.trans e2) H2 (Same.refl _) D q n⟩
theorem s_unl4 {i j k l : Nat} {a : Addr} {x y z w : V} (h : EvP te σ H (isV (.ref a))) (hl : H a = some (.lst [x, y, z, w])) (kk : ∀ H1, Same H H1 → Run u ((((σ.set i (some x)).set j (some y)).set k (some z)).set l (some w)) B H1 R N) : Run (tSeq (tAsg te (gUnl K 4 (gCons (gName i) (gCons (gName j) (gCons (gName k) (gCons (gName l) gNil)))))) u) σ B H R N := fun H1 e D q n =>
  h H1 e _ fun v H2 e2 hv => ⟨a, [x, y, z, w], hv, SqL.of ((e.trans e2) _ _ hl), rfl, x, [y, z, w], rfl, y, [z, w], rfl, z, [w], rfl, w, [], rfl, rfl, kk H2 (e.trans e2) H2 (Same.refl _) D q n⟩
/-- numbers[i] -/
theorem e_num {a : Addr} {ns : List Int} {i : Nat} {n : Int} (ha : EvP ta σ H (isV (.ref a))) (h : H a = some (.lst (ns.map V.int))) (hn : ns[i]? = some n) : EvP (tOp (rIxL K) ta (tC (.int (i : Int)))) σ H (isV (.int n)) :=
  e_ixL ha ev_c h (atI_nat (by rw [List.getElem?_map, hn]; rfl))
theorem e_num0 {a : Addr} {ns : List Int} {n : Int} (ha : EvP ta σ H (isV (.ref a))) (h : H a = some (.lst ((n :: ns).map V.int))) : EvP (tOp (rIxL K) ta (tC (.int 0))) σ H (isV (.int n)) := e_num (i := 0) ha h rfl
theorem e_retI {n : Int} (h : EvP te σ H (isV (.int n))) : EvP (tLst (tCons te tNil)) σ H (RLst RI [n]) := e_lst1 h
theorem e_lenRI {ns : List Int} (h : EvP te σ H (RLst RI ns)) : EvP (tCB (fun xs H Q => ∃ p ys, xs = [.ref p] ∧ (SqL K H p ys ∨ SqT K H p ys) ∧ Q (.int ys.length) H) (tCons te tNil)) σ H (isV (.int ns.length)) :=
  e_lenR h fun v H1 _ r => by obtain ⟨a, rfl, h⟩ := r; exact ⟨a, _, rfl, ints_iff.mp h, List.length_map _⟩
theorem e_lenL {α : Type} {F : α → RR} [∀ x, Mono (F x)] {xs : List α} (h : EvP te σ H (RLst F xs)) : EvP (tCB (fun xs H Q => ∃ p ys, xs = [.ref p] ∧ (SqL K H p ys ∨ SqT K H p ys) ∧ Q (.int ys.length) H) (tCons te tNil)) σ H (isV (.int xs.length)) :=
  e_lenR h fun v H1 _ r => by obtain ⟨a, rfl, vs, h1, h2⟩ := r; exact ⟨a, vs, rfl, h1, h2.len⟩
theorem e_ixR {α : Type} {F : α → RR} [mf : ∀ x, Mono (F x)] {L : List α} {i : Int} {k : Nat} {x : α} (ha : EvP ta σ H (RLst F L)) (hb : EvP tb σ H (isV (.int i))) (hi : i = (k : Int)) (hx : L[k]? = some x) : EvP (tOp (rIxL K) ta tb) σ H (F x) := fun H1 e Q q =>
  ha H1 e _ fun v H2 e2 hv => hb H2 (e.trans e2) _ fun v2 H3 e3 hv2 => by
    cases hv2
    obtain ⟨a, rfl, vs, h1, h2⟩ := hv
    obtain ⟨v, hv, f⟩ := h2.get2 hx
    subst hi
    exact ⟨a, vs, _, v, rfl, rfl, SqL.of (e3 _ _ h1), atI_nat hv, q _ _ (e2.trans e3) ((mf x).mono e3 f)⟩
theorem e_ixLast {α : Type} {F : α → RR} [mf : ∀ x, Mono (F x)] {L : List α} {x : α} (ha : EvP ta σ H (RLst F L)) (hx : L.getLast? = some x) : EvP (tOp (rIxL K) ta (tOp (rI0 fun i j => .int (i - j)) (tCB (fun xs H Q => ∃ p ys, xs = [.ref p] ∧ (SqL K H p ys ∨ SqT K H p ys) ∧ Q (.int ys.length) H) (tCons ta tNil)) (tC (.int 1)))) σ H (F x) := by
  rw [List.getLast?_eq_getElem?] at hx
  obtain ⟨hl, _⟩ := List.getElem?_eq_some_iff.mp hx
  exact e_ixR ha (e_sub (e_lenL ha) ev_c) (by omega) hx
theorem vRow {i : Nat} {b : Bytes} {ra : Addr} {bs : List Bytes} (ha : EvP ta σ H (isV (.ref ra))) (h : LstAt RBy H ra bs) (hb : bs[i]? = some b) : EvP (tOp (rIxL K) ta (tC (.int (i : Int)))) σ H (RBy b) := e_ixF ha ev_c h rfl hb
theorem vSheet {b : Bytes} {s : Sheet} (ho : EvP te σ H (RBy b)) (hl : b.length ≤ 32) (hs : LsRefs.readCode b = .ok s) {E : XK} : EvP (tCall (sp_sheet_of K A) [] E (tCons te tNil)) σ H (RSh s) :=
  e_call (ea_consG ho fun _ _ => ea_nil) fun vs H1 e hv => by
    obtain ⟨v, r, rfl, ⟨a, rfl, ha⟩, hr⟩ := hv
    cases hr
    exact ⟨a, b, s, rfl, ints_iff.mp ha, by omega, hs, rfl⟩
theorem read_ok {b : Bytes} {s : Sheet} (h : LsRefs.readCode b = .ok s) : okSh s := ⟨(Tx.read_inv h).2.1, (Tx.read_inv h).2.2.2.2⟩
/-- the log's questions, asked by a slot that has the log -/
theorem e_methW {S : List V → Hp → RR → Prop} {C a dx : Addr} {m : Str} {fs : List (Str × V)} {Pa : List V → Hp → Prop} {E : XK} {t : TA} (ho : EvP to σ H (isV (.ref a))) (h : H a = some (.ins C dx fs)) (hl : fs.lookup m = none) (ht : EvA t σ H Pa) (hs : ∀ vs H1, Same H H1 → Pa vs H1 → ∃ R', S (.ref a :: vs) H1 R' ∧ ∀ v H', R' v H' → R v H') : EvP (tMeth C m (pure S) [] E to t) σ H R := fun H1 e Q q =>
  ho H1 e _ fun v H2 e2 hv => by
    cases hv
    refine ⟨a, dx, fs, rfl, (e.trans e2) _ _ h, hl, ht H2 (e.trans e2) _ fun us H3 e3 hu => ?_⟩
    rw [List.append_nil]
    obtain ⟨R', h1, h2⟩ := hs us H3 ((e.trans e2).trans e3) hu
    exact ⟨R', h1, fun v H4 e4 hv => q v H4 ((e2.trans e3).trans e4) (h2 v H4 hv)⟩
theorem e_landOfX {E : XK} {g ea : Addr} {zs : List En} {d : Nat} (ho : EvP to σ H (isV (.ref g))) (hd : EvP td σ H (isV (.int d))) (hL : LogP A H g ea zs) (gd : GoodL (lg zs)) : EvP (tMeth A.aLogbook "land_of" (sp_Logbook_land_of K A) [] E to (tCons td tNil)) σ H (RLandX A H zs (LsEdit.landOf (LsEdit.upTo (lg zs) d))) := by
  obtain ⟨dx, h1, _⟩ := id hL
  exact e_methW ho h1 (logFs_none (by decide +kernel)) (ea_cons hd ea_nil) fun vs H2 e hv => by
    cases hv
    refine ⟨_, ⟨g, ea, zs, d, rfl, hL.mono e, gd, rfl⟩, fun v H' h => ?_⟩
    obtain ⟨d, ps, h1, h2, h3⟩ := h
    exact ⟨d, ps, h1, h2, fun F sF => h3 F (sF.trans e)⟩
theorem landX_land {zs : List En} {v : V} {H' : Hp} (s : Same H H') (hE : Ents A H [] zs) (h : RLandX A H zs L v H') : RLand A L v H' := by
  obtain ⟨d, ps, rfl, h2, h3⟩ := h
  exact ⟨d, rfl, ps, h2, (h3 H (Same.refl _) hE).mono s⟩
theorem e_landOf {E : XK} {g ea : Addr} {zs : List En} {d : Nat} (ho : EvP to σ H (isV (.ref g))) (hd : EvP td σ H (isV (.int d))) (hL : LogP A H g ea zs) (gd : GoodL (lg zs)) : EvP (tMeth A.aLogbook "land_of" (sp_Logbook_land_of K A) [] E to (tCons td tNil)) σ H (RLand A (LsEdit.landOf (LsEdit.upTo (lg zs) d))) :=
  (e_landOfX ho hd hL gd).imp fun v H1 s h => landX_land s (by obtain ⟨_, _, _, h⟩ := hL; exact h) h
theorem e_editionsF {E : XK} {g ea : Addr} {zs : List En} {d : Nat} {ts : TE} (ho : EvP to σ H (isV (.ref g))) (hs : EvP ts σ H (RSh c)) (hd : EvP td σ H (isV (.int d))) (hL : LogP A H g ea zs) (gd : GoodL (lg zs)) : EvP (tMeth A.aLogbook "editions" (sp_Logbook_editions K A) [] E to (tCons ts (tCons td tNil))) σ H (RFr H (RLst (REd A c) (LsEdit.editions (LsEdit.upTo (lg zs) d) c))) := by
  obtain ⟨dx, h1, _⟩ := id hL
  exact e_methW ho h1 (logFs_none (by decide +kernel)) (ea_consG hs fun H1 s => ea_cons (hd.mono s) ea_nil) fun vs H2 e hv => by
    obtain ⟨v, r, rfl, ⟨sa, rfl, hsa⟩, hr⟩ := hv
    cases hr
    exact ⟨_, ⟨g, ea, sa, zs, c, d, rfl, hL.mono e, gd, hsa, rfl⟩, fun v H' h => ⟨h.1, by obtain ⟨p, h1, h2⟩ := h.2; exact ⟨p, h1, e.free h2⟩⟩⟩
theorem e_editions {E : XK} {g ea : Addr} {zs : List En} {d : Nat} {ts : TE} (ho : EvP to σ H (isV (.ref g))) (hs : EvP ts σ H (RSh c)) (hd : EvP td σ H (isV (.int d))) (hL : LogP A H g ea zs) (gd : GoodL (lg zs)) : EvP (tMeth A.aLogbook "editions" (sp_Logbook_editions K A) [] E to (tCons ts (tCons td tNil))) σ H (RLst (REd A c) (LsEdit.editions (LsEdit.upTo (lg zs) d) c)) := (e_editionsF ho hs hd hL gd).imp fun v H1 _ h => h.1
theorem e_callW {S : List V → Hp → RR → Prop} {Pa : List V → Hp → Prop} {E : XK} {ta : TA} (h : EvA ta σ H Pa) (hs : ∀ vs H1, Same H H1 → Pa vs H1 → ∃ R', S vs H1 R' ∧ ∀ v H', Same H1 H' → R' v H' → R v H') : EvP (tCall (pure S) [] E ta) σ H R := fun H1 e Q q =>
  h H1 e _ fun us H2 e2 hu => by
    show pure S (us ++ []) H2 Q E
    rw [List.append_nil]
    obtain ⟨R', h1, h2⟩ := hs us H2 (e.trans e2) hu
    exact ⟨R', h1, fun v H3 e3 hv => q v H3 (e2.trans e3) (h2 v H3 e3 hv)⟩
theorem e_featOn {E : XK} {tl ts : TE} (hl : EvP tl σ H (RLand A L)) (hs : ∀ H1, Same H H1 → EvP ts σ H1 (RSh c)) (ris : La.Ris L) (len : L.length ≤ 1000) (hg : allG L) (hc : c.length ≤ 6) : EvP (tCall (sp_features_on K A) [] E (tCons tl (tCons ts tNil))) σ H (RLand A (LsEdit.onSheet L c)) :=
  e_callW (ea_consG hl fun H1 s => ea_consG (hs H1 s) fun _ _ => ea_nil) fun vs H1 e hv => by
    obtain ⟨v, r, rfl, ⟨d, rfl, ps, hd, hp⟩, v2, r2, rfl, ⟨sa, rfl, hsa⟩, hr⟩ := hv
    cases hr
    refine ⟨_, ⟨d, sa, L, c, ps, rfl, hd, hp, ris, len, hg, hsa, hc, rfl⟩, fun v H' s h => ?_⟩
    obtain ⟨q, rfl, hq⟩ := h
    exact ⟨q, rfl, _, hq, (land_filter (k := LsEdit.stands c) hp).mono s⟩
theorem e_featOnX {E : XK} {tl ts : TE} {zs : List En} (hl : EvP tl σ H (RLandX A H zs L)) (hE : Ents A H [] zs) (hs : ∀ H1, Same H H1 → EvP ts σ H1 (RSh c)) (ris : La.Ris L) (len : L.length ≤ 1000) (hg : allG L) (hc : c.length ≤ 6) : EvP (tCall (sp_features_on K A) [] E (tCons tl (tCons ts tNil))) σ H (RLandX A H zs (LsEdit.onSheet L c)) :=
  e_callW (ea_consG hl fun H1 s => ea_consG (hs H1 s) fun _ _ => ea_nil) fun vs H1 e hv => by
    obtain ⟨v, r, rfl, ⟨d, ps, rfl, hd, hp⟩, v2, r2, rfl, ⟨sa, rfl, hsa⟩, hr⟩ := hv
    cases hr
    refine ⟨_, ⟨d, sa, L, c, ps, rfl, hd, (hp H (Same.refl _) hE).mono e, ris, len, hg, hsa, hc, rfl⟩, fun v H' s h => ?_⟩
    obtain ⟨q, rfl, hq⟩ := h
    exact ⟨q, _, rfl, hq, fun F sF eF => land_filter (k := LsEdit.stands c) (hp F sF eF)⟩
theorem e_changes {E : XK} {t1 t2 : TE} {M : Land} (h1 : EvP t1 σ H (RLand A L)) (h2 : ∀ H1, Same H H1 → EvP t2 σ H1 (RLand A M)) (r1 : La.Ris L) (r2 : La.Ris M) (l1 : L.length ≤ 1000) (l2 : M.length ≤ 1000) : EvP (tCall (sp_changes K A) [] E (tCons t1 (tCons t2 tNil))) σ H (RLst RCh (LsEdit.changed L M)) :=
  e_call (ea_consG h1 fun H1 s => ea_consG (h2 H1 s) fun _ _ => ea_nil) fun vs H1 e hv => by
    obtain ⟨v, r, rfl, ⟨a, rfl, ha⟩, v2, r3, rfl, ⟨b, rfl, hb⟩, hr⟩ := hv
    cases hr
    exact ⟨a, b, L, M, rfl, ha, hb, r1, r2, l1, l2, rfl⟩
theorem e_counted {E : XK} {ns : List Int} (h : EvP te σ H (RLst RI ns)) (hl : ns.length ≤ 9000000) : EvP (tCall (sp_counted K A) [] E (tCons te tNil)) σ H (RLst RI ((ns.length : Int) :: ns)) :=
  e_call (ea_consG h fun _ _ => ea_nil) fun vs H1 e hv => by
    obtain ⟨v, r, rfl, ⟨a, rfl, ha⟩, hr⟩ := hv
    cases hr
    exact ⟨a, ns, rfl, ha, hl, rfl⟩
theorem e_isDay {E : XK} {d : Int} (h : EvP te σ H (isV (.int d))) : EvP (tCall (sp_is_day K A) [] E (tCons te tNil)) σ H (isV (.bl (decide (d ≤ 99999)))) := e_callV (ea_cons h ea_nil) fun H1 e => ⟨d, rfl, rfl⟩
theorem e_isNumber {E : XK} {d : Int} (h : EvP te σ H (isV (.int d))) : EvP (tCall (sp_is_number K A) [] E (tCons te tNil)) σ H (isV (.bl (decide (1 ≤ d) && decide (d ≤ 9999)))) := e_callV (ea_cons h ea_nil) fun H1 e => ⟨d, rfl, rfl⟩
theorem e_refusal {E : XK} {b : Bool} {ra : Addr} {bs : List Bytes} {tr : TE} (h : EvP te σ H (isV (.bl b))) (hr : EvP tr σ H (isV (.ref ra))) (hA : LstAt RBy H ra bs) : EvP (tCall (sp_refusal K A) [] E (tCons te (tCons tr tNil))) σ H (RLst RI (refP b bs)) :=
  e_callV (ea_cons h (ea_cons hr ea_nil)) fun H1 e => ⟨b, ra, bs, rfl, hA.mono e, rfl⟩
theorem isDay_eq (d : Nat) : decide ((d : Int) ≤ 99999) = EditSpec.isDay d := by
  unfold EditSpec.isDay LsEdit.DAYS
  rw [decide_eq_decide]; omega
theorem isNum_eq (d : Nat) : (decide (1 ≤ (d : Int)) && decide ((d : Int) ≤ 9999)) = EditSpec.isNumber d := by
  unfold EditSpec.isNumber LsLand.NUMBER
  rw [show decide (1 ≤ (d : Int)) = decide (1 ≤ d) from decide_eq_decide.mpr (by omega), show decide ((d : Int) ≤ 9999) = decide (d ≤ 9999) from decide_eq_decide.mpr (by omega)]
theorem landOf_from (l : Log) : LsEdit.landOf l = landFrom [] l := rfl
structure okL (L : Land) : Prop where
  ris : La.Ris L
  len : L.length ≤ 200
  all : allG L
theorem GoodL.land {l : Log} (g : GoodL l) : okL (LsEdit.landOf l) := ⟨ris_land l, g.size, g.all⟩
theorem GoodL.landUp {l : Log} (g : GoodL l) (d : Nat) : okL (LsEdit.landOf (LsEdit.upTo l d)) := (g.upTo d).land
theorem okL.on {L : Land} (g : okL L) (c : Sheet) : okL (LsEdit.onSheet L c) := ⟨La.ris_on g.ris, Nat.le_trans (List.length_filter_le _ _) g.len, fun f h => g.all f (List.mem_filter.mp h).1⟩
theorem okEd.land {x : LsEdit.Edition} (g : okEd x) : okL x.land := ⟨g.ris, g.len, g.all⟩
def RChg (o : Option LsEdit.Edition) (M : Land) : RR := match o with
  | none => isV .non
  | some x => RLst RCh (LsEdit.changed x.land M)
def sp_changes_since (K : PySem.W.Frag) (A : Ad) : Sp := pure fun vs H R => ∃ (g ea sa : Addr) (zs : List En) (c : Sheet) (d : Nat), vs = [.ref g, .ref sa, .int d] ∧ LogP A H g ea zs ∧ GoodL (lg zs) ∧ ShAt H sa c ∧ c.length ≤ 6 ∧ R = RChg (LsEdit.latest (lg zs) c d) (LsEdit.onSheet (LsEdit.landOf (LsEdit.upTo (lg zs) d)) c)
theorem ok_changes_since (T : Txt K mg A) (c_Logbook_editions : C8.Met P w K mg base 3 A.aLogbook "editions" (sp_Logbook_editions K A) []) (c_Logbook_land_of : C8.Met P w K mg base 2 A.aLogbook "land_of" (sp_Logbook_land_of K A) []) (c_changes : C8.Cal P w K mg base 2 "changes" (sp_changes K A) []) (c_features_on : C8.Cal P w K mg base 5 "features_on" (sp_features_on K A) []) {f : Addr} {fd : FuncData} (F : C8.Def K mg "changes_since" s_changes_since f fd) (bb : Binds K fd ["log", "sheet", "day"] []) : C8.Cal P w K mg base 6 "changes_since" (sp_changes_since K A) [] := by
  refine C8.cal0 F bb .nil sc_changes_since (fun vs H Q E h => ?_) (fun cdv Ar outer s H vs Q E hr h => ?_)
  · obtain ⟨R, ⟨g, ea, sa, zs, c, d, rfl, _⟩, _⟩ := h
    rfl
  · obtain ⟨R, ⟨g, ea, sa, zs, c, d, rfl, hL, gd, hs, hc, rfl⟩, k⟩ := h
    have gu := gd.landUp d
    have vS : ∀ {i : Nat} {σ : L2.St} {H' : Hp}, Same H H' → σ[i]? = some (some (.ref sa)) → EvP (tVar i) σ H' (RSh c) := fun e h => (ev_var h).imp fun v H2 s q => by cases q; exact ⟨sa, rfl, (hs.mono e).mono s⟩
    refine ⟨_, (pss_cons (ps_set (i := 3) sc_changes_since.nd rfl (Or.inl rfl) (C8.pe_mt c_Logbook_editions hr (by decide) (pv 0) (pa_cons (pv 1) (pa_cons (pv 2) pa_nil)))) (pss_cons (ps_if (pt_cmpR op_eq (pe_callB call_len_seq (by rfl) T.len (by decide +kernel) (pa_cons (pv 3) pa_nil)) pe_int (nomark _)) (pss_one (ps_ret pe_non)) pss_nil) (pss_one (ps_ret (C8.pe_c c_changes hr (by decide) rfl (pa_cons (pe_fld (pe_ix ix_list (pv 3) (pe_op op_sub (pe_callB call_len_seq (by rfl) T.len (by decide +kernel) (pa_cons (pv 3) pa_nil)) pe_int) (fun _ _ => rfl)) rfl) (pa_cons (C8.pe_c c_features_on hr (by decide) rfl (pa_cons (C8.pe_mt c_Logbook_land_of hr (by decide) (pv 0) (pa_cons (pv 2) pa_nil)) (pa_cons (pv 1) pa_nil))) pa_nil))))))), body (s_set (e_editions (ev_var rfl) (vS (Same.refl _) rfl) (ev_var rfl) hL gd) fun v H1 s1 hv => ?_) k⟩
    have vE : ∀ {i : Nat} {σ : L2.St} {H' : Hp}, Same H1 H' → σ[i]? = some (some v) → EvP (tVar i) σ H' (RLst (REd A c) (LsEdit.editions (LsEdit.upTo (lg zs) d) c)) := fun e h => (ev_var h).imp fun v H2 s q => by cases q; exact Mono.mono (e.trans s) hv
    refine s_when (et_test (e_eq (e_lenL (vE (Same.refl _) rfl)) ev_c)) (fun c1 => s_ret s1 ?_) fun c1 => s_ret s1 ?_
    · have e0 : LsEdit.editions (LsEdit.upTo (lg zs) d) c = [] := by
        have := of_decide_eq_true c1
        exact List.eq_nil_of_length_eq_zero (by omega)
      unfold LsEdit.latest
      rw [e0]
      exact ev_c
    · have ne : LsEdit.editions (LsEdit.upTo (lg zs) d) c ≠ [] := fun z => by rw [z] at c1; simp at c1
      obtain ⟨x, hx⟩ : ∃ x, (LsEdit.editions (LsEdit.upTo (lg zs) d) c).getLast? = some x := ⟨_, List.getLast?_eq_some_getLast ne⟩
      have ge := (gd.upTo d).ed (List.mem_of_getLast? hx)
      unfold LsEdit.latest
      rw [hx]
      exact e_changes (e_featR T (e_ixLast (vE (Same.refl _) rfl) hx)) (fun H2 s2 => e_featOn (e_landOf (ev_var rfl) (ev_var rfl) ((hL.mono s1).mono s2) gd) (fun H3 s3 => vS ((s1.trans s2).trans s3) rfl) gu.ris (by have := gu.len; omega) gu.all hc) ge.ris (gu.on c).ris (by have := ge.len; omega) (by have := (gu.on c).len; omega)
/-- what a question about the log promises -/
def spTell (m : Nat) (rows : Nat) (F : List Nat → List Bytes → Option EditSpec.Call) (A : Ad) : Sp := pure fun vs H R => ∃ (g ea na ra : Addr) (zs : List En) (ns : List Nat) (bs : List Bytes) (q : EditSpec.Call), vs = [.ref g, .ref na, .ref ra] ∧ LogP A H g ea zs ∧ GoodL (lg zs) ∧
  H na = some (.lst ((ns.map fun (n : Nat) => (n : Int)).map V.int)) ∧ LstAt RBy H ra bs ∧ ns.length = m ∧ bs.length = rows ∧ F ns bs = some q ∧ R = RLst RI (LsRows.told (EditSpec.told (lg zs) q))
def sp_tell_land (K : PySem.W.Frag) (A : Ad) : Sp := spTell 1 0 (fun ns bs => (ns[0]?).map .land) A
def sp_tell_feature (K : PySem.W.Frag) (A : Ad) : Sp := spTell 2 0 (fun ns bs => match ns with
  | [d, n] => some (.feature d n)
  | _ => none) A
def sp_tell_text (K : PySem.W.Frag) (A : Ad) : Sp := spTell 1 1 (fun ns bs => match ns, bs with
  | [k], [c] => some (.text c k)
  | _, _ => none) A
def sp_tell_now (K : PySem.W.Frag) (A : Ad) : Sp := spTell 1 1 (fun ns bs => match ns, bs with
  | [d], [c] => some (.now c d)
  | _, _ => none) A
def sp_tell_old (K : PySem.W.Frag) (A : Ad) : Sp := spTell 1 1 (fun ns bs => match ns, bs with
  | [d], [c] => some (.old c d)
  | _, _ => none) A
theorem ok_tell_land (T : Txt K mg A) (c_Logbook_land_of : C8.Met P w K mg base 2 A.aLogbook "land_of" (sp_Logbook_land_of K A) []) (c_counted : C8.Cal P w K mg base 1 "counted" (sp_counted K A) []) (c_is_day : C8.Cal P w K mg base 1 "is_day" (sp_is_day K A) []) {f : Addr} {fd : FuncData} (F : C8.Def K mg "tell_land" s_tell_land f fd) (bb : Binds K fd ["log", "numbers", "rows"] []) : C8.Cal P w K mg base 3 "tell_land" (sp_tell_land K A) [] := by
  refine C8.cal0 F bb .nil sc_tell_land (fun vs H Q E h => ?_) (fun cdv Ar outer s H vs Q E hr h => ?_)
  · obtain ⟨R, ⟨g, ea, na, ra, zs, ns, bs, q, rfl, _⟩, _⟩ := h
    rfl
  · obtain ⟨R, ⟨g, ea, na, ra, zs, ns, bs, q, rfl, hL, gd, hn, hb, l1, l2, hq, rfl⟩, k⟩ := h
    obtain ⟨d, rfl⟩ : ∃ d, ns = [d] := len1 l1
    cases hq
    have gu := gd.landUp d
    refine ⟨_, (pss_cons (ps_set (i := 3) sc_tell_land.nd rfl (Or.inl rfl) (pe_ix ix_list (pv 1) pe_int (fun _ _ => rfl))) (pss_cons (ps_if (pt_not (pt_val (C8.pe_c c_is_day hr (by decide) rfl (pa_cons (pv 3) pa_nil)))) (pss_one (ps_ret (pe_lst (pa_cons (C8.pe_gc rfl T.g_OUT_OF_BOUNDS) pa_nil)))) pss_nil) (pss_one (ps_ret (C8.pe_c c_counted hr (by decide) rfl (pa_cons (pe_callB (cr_sortedDI rfl) (by rfl) T.sorted (by decide +kernel) (pa_cons (C8.pe_mt c_Logbook_land_of hr (by decide) (pv 0) (pa_cons (pv 3) pa_nil)) pa_nil)) pa_nil)))))), body (s_set (e_num0 (ev_var rfl) hn) fun v H1 s1 hv => ?_) k⟩
    cases hv
    refine s_when (et_not (et_B (e_isDay (ev_var rfl)))) (fun c1 => s_ret s1 ?_) fun c1 => s_ret s1 ?_
    · rw [isDay_eq, Bool.not_eq_true'] at c1
      have e : LsRows.told (EditSpec.told (lg zs) (.land d)) = [-1] := by
        rw [t_land, if_pos c1]; rfl
      rw [e]; exact e_retI ev_c
    · rw [isDay_eq, Bool.not_eq_false'] at c1
      have e : LsRows.told (EditSpec.told (lg zs) (.land d)) = ((((LsEdit.landOf (LsEdit.upTo (lg zs) d)).map fun f => (f.number : Int)).length : Nat) : Int) :: ((LsEdit.landOf (LsEdit.upTo (lg zs) d)).map fun f => (f.number : Int)) := by
        rw [t_land, if_neg (by rw [c1]; decide), told_eq, List.length_map]
        simp [LsAns.tells, nb]
      rw [e]
      refine e_counted ((e_sortedD (e_landOf (ev_var rfl) (ev_var rfl) (hL.mono s1) gd) gu.ris).imp fun v H2 _ h => ?_) (by rw [List.length_map]; have := gu.len; omega)
      obtain ⟨p, rfl, hp, _⟩ := h
      exact ⟨p, rfl, ints_iff.mpr hp⟩
theorem coords_take {L : List Pt} {i : Nat} {p : Pt} (h : L[i]? = some p) : EditSpec.coords (L.take (i + 1)) = EditSpec.coords (L.take i) ++ [p.x, p.y] := by unfold EditSpec.coords; rw [take_flat h]
theorem coords_len (L : List Pt) : (EditSpec.coords L).length = 2 * L.length := by
  induction L with
  | nil => rfl
  | cons p r ih =>
    have : EditSpec.coords (p :: r) = [p.x, p.y] ++ EditSpec.coords r := rfl
    rw [this, List.length_append, ih, List.length_cons]; simp; omega
theorem ok_tell_feature (T : Txt K mg A) (c_Logbook_land_of : C8.Met P w K mg base 2 A.aLogbook "land_of" (sp_Logbook_land_of K A) []) (c_is_day : C8.Cal P w K mg base 1 "is_day" (sp_is_day K A) []) (c_is_number : C8.Cal P w K mg base 1 "is_number" (sp_is_number K A) []) {f : Addr} {fd : FuncData} (F : C8.Def K mg "tell_feature" s_tell_feature f fd) (bb : Binds K fd ["log", "numbers", "rows"] []) : C8.Cal P w K mg base 3 "tell_feature" (sp_tell_feature K A) [] := by
  refine C8.cal0 F bb .nil sc_tell_feature (fun vs H Q E h => ?_) (fun cdv Ar outer s H vs Q E hr h => ?_)
  · obtain ⟨R, ⟨g, ea, na, ra, zs, ns, bs, q, rfl, _⟩, _⟩ := h
    rfl
  · obtain ⟨R, ⟨g, ea, na, ra, zs, ns, bs, q, rfl, hL, gd, hn, hb, l1, l2, hq, rfl⟩, k⟩ := h
    obtain ⟨d, n, rfl⟩ : ∃ d n, ns = [d, n] := len2 l1
    cases hq
    have gu := gd.landUp d
    refine ⟨_, (pss_cons (ps_asg (pv 1) (pg_unl rfl (pgs_cons (pg_name (i := 6) sc_tell_feature.nd rfl (Or.inl rfl)) (pgs_cons (pg_name (i := 7) sc_tell_feature.nd rfl (Or.inl rfl)) pgs_nil)))) (pss_cons (ps_if (PW.pt (pw_or (pt_not (pt_val (C8.pe_c c_is_day hr (by decide) rfl (pa_cons (pv 6) pa_nil)))) (pw_or1 (pt_not (pt_val (C8.pe_c c_is_number hr (by decide) rfl (pa_cons (pv 7) pa_nil))))))) (pss_one (ps_ret (pe_lst (pa_cons (C8.pe_gc rfl T.g_OUT_OF_BOUNDS) pa_nil)))) pss_nil) (pss_cons (ps_set (i := 3) sc_tell_feature.nd rfl (Or.inl rfl) (C8.pe_mt c_Logbook_land_of hr (by decide) (pv 0) (pa_cons (pv 6) pa_nil))) (pss_cons (ps_if (pt_cmp (pc_dnotin (hu_of hr) (pv 7) (pv 3))) (pss_one (ps_ret (pe_lst (pa_cons (C8.pe_gc rfl T.g_NO_SUCH) pa_nil)))) pss_nil) (pss_cons (ps_set (i := 4) sc_tell_feature.nd rfl (Or.inl rfl) (pe_dget (hu_of hr) (pv 3) (pv 7) (fun _ _ => rfl))) (pss_cons (ps_set (i := 5) sc_tell_feature.nd rfl (Or.inl rfl) (pe_lst (pa_cons pe_int (pa_cons (pe_fld (pv 4) rfl) (pa_cons (pe_fld (pv 4) rfl) (pa_cons (pe_callB call_len_seq (by rfl) T.len (by decide +kernel) (pa_cons (pe_fld (pv 4) rfl) pa_nil)) pa_nil)))))) (pss_cons (ps_for PassesOwn.never rfl (pi_list (pe_fld (pv 4) rfl)) (pg_tup rfl (pgs_cons (pg_name (i := 8) sc_tell_feature.nd rfl (Or.inl rfl)) (pgs_cons (pg_name (i := 9) sc_tell_feature.nd rfl (Or.inl rfl)) pgs_nil))) (pss_one (ps_expr (pe_bm PySem.F.plainAttrs_list PySem.F.slot_list_extend PySem.F.type_list_extend mt_extend (pv 5) (pa_cons (pe_lst (pa_cons (pv 8) (pa_cons (pv 9) pa_nil))) pa_nil))))) (pss_one (ps_ret (pe_op op_cat (pv 5) (pe_fld (pv 4) rfl))))))))))), body (s_unl2 (ev_var rfl) hn fun H1 s1 => ?_) k⟩
    refine s_when (b := (!EditSpec.isDay d) || !EditSpec.isNumber n) ((et_or (et_not (et_B (e_isDay (ev_var rfl)))) fun _ => et_not (et_B (e_isNumber (ev_var rfl)))).is (by rw [isDay_eq, isNum_eq])) (fun c1 => s_ret s1 ?_) fun c1 => ?_
    · have e : LsRows.told (EditSpec.told (lg zs) (.feature d n)) = [-1] := by
        have cc : EditSpec.isDay d = false ∨ EditSpec.isNumber n = false := by simpa using c1
        rw [t_feature, if_pos cc]; rfl
      rw [e]; exact e_retI ev_c
    · have e0 : EditSpec.told (lg zs) (.feature d n) = (match LsLand.find (LsEdit.landOf (LsEdit.upTo (lg zs) d)) n with
        | none => LsAns.says (-4)
        | some f => ⟨0, LsAns.ints [f.cls, EditSpec.kindOf f.shape, f.shape.places.length] ++ EditSpec.coords f.shape.places, f.name⟩) := by
        have cc : ¬ (EditSpec.isDay d = false ∨ EditSpec.isNumber n = false) := by simpa using c1
        rw [t_feature, if_neg cc]
      rw [e0]
      refine s_set (e_landOf (ev_var rfl) (ev_var rfl) (hL.mono s1) gd) fun v H2 s2 hv => ?_
      have s12 := s1.trans s2
      have vL : ∀ {i : Nat} {σ : L2.St} {H' : Hp}, Same H2 H' → σ[i]? = some (some v) → EvP (tVar i) σ H' (RLand A (LsEdit.landOf (LsEdit.upTo (lg zs) d))) := fun e h => (ev_var h).imp fun v H2 s q => by cases q; exact Mono.mono (e.trans s) hv
      refine s_when (et_B (e_dnotin (ev_var rfl) (vL (Same.refl _) rfl) gu.ris)) (fun c2 => s_ret s12 ?_) fun c2 => ?_
      · have f1 : LsLand.find (LsEdit.landOf (LsEdit.upTo (lg zs) d)) n = none := by simpa using c2
        rw [f1]; exact e_retI ev_c
      · obtain ⟨f, hf⟩ := Option.isSome_iff_exists.mp (show (LsLand.find (LsEdit.landOf (LsEdit.upTo (lg zs) d)) n).isSome = true by simpa using c2)
        rw [hf]
        have gf := gu.all f ((La.find_some gu.ris).mp hf).1
        have pl := gf.pl
        have nm := gf.nm
        refine s_set (e_dget (vL (Same.refl _) rfl) (ev_var rfl) gu.ris hf) fun v H3 s3 hv => Run.base (s12.trans s3) ?_
        obtain ⟨fa, rfl, hfa⟩ := hv
        obtain ⟨dx, nma, pa, ba, h4, h5, h6, h7⟩ := id hfa
        have l6 : ∃ us, H3 pa = some (.lst us) ∧ us.length = f.shape.places.length := by obtain ⟨us, z1, z2⟩ := h6; exact ⟨us, z1, z2.len⟩
        obtain ⟨us, hus, lus⟩ := l6
        refine s_set (e_lstF (vs := [.int 0, .int f.cls, .int (EditSpec.kindOf f.shape), .int f.shape.places.length]) (ea_cons ev_c (ea_cons (e_group T (ev_var rfl) hfa) (ea_cons (e_kind T (ev_var rfl) hfa) (ea_cons ((e_lenS (e_fld (ev_var rfl) h4 T.cl_Feature T.n_Feature_places ftF_places) hus).is (by rw [lus])) ea_nil)))) (by show 4 ≤ 1000000; decide)) fun v H4 s4 hv => ?_
        obtain ⟨p, rfl, hp, hB⟩ := hv
        have hfa4 := hfa.mono s4
        refine s_seq (M := fun σ' H' => ∃ v3 v8 v9, σ' = [some (.ref g), some (.ref na), some (.ref ra), v3, some (.ref fa), some (.ref p), some (.int d), some (.int n), v8, v9] ∧ H' p = some (.lst (([0, (f.cls : Int), (EditSpec.kindOf f.shape : Int), (f.shape.places.length : Int)] ++ EditSpec.coords f.shape.places).map V.int))) (s_forB2 (F := RPt) (L := f.shape.places) s4 (e_fld (ev_var rfl) (s4 _ _ h4) T.cl_Feature T.n_Feature_places ftF_places) h6
          (fun i σ' H' => ∃ v3 v8 v9, σ' = [some (.ref g), some (.ref na), some (.ref ra), v3, some (.ref fa), some (.ref p), some (.int d), some (.int n), v8, v9] ∧ H' p = some (.lst (([0, (f.cls : Int), (EditSpec.kindOf f.shape : Int), (f.shape.places.length : Int)] ++ EditSpec.coords (f.shape.places.take i)).map V.int))) (fun H5 e => ⟨_, _, _, rfl, by have := e _ _ hp; simpa [EditSpec.coords] using this⟩) (fun i z v σ' H' hz hv sB q => ?_) fun σ' H' sB q => ?_) fun σ' H' s' hM => ?_
        · obtain ⟨v3, v8, v9, rfl, hq⟩ := q
          obtain ⟨t, rfl, ht⟩ := hv
          refine ⟨t, _, _, rfl, sB _ _ ht, s_extN (F := RI) (ys := [z.x, z.y]) sB hB hq (ev_var rfl) (e_lstI (ns := [z.x, z.y]) (ea_v2 rfl rfl) (by show 2 ≤ 1000000; decide)) ?_ fun vs H5 s5 hvs sb => ⟨_, _, _, rfl, ?_⟩⟩
          · rw [List.length_map, List.length_append, coords_len, List.length_take]; simp; omega
          · rw [upd_same, vals_map (g := V.int) hvs, coords_take hz, ← List.map_append, List.append_assoc]
        · obtain ⟨v3, v8, v9, rfl, hq⟩ := q
          rw [List.take_length] at hq
          exact ⟨_, _, _, rfl, hq⟩
        · obtain ⟨v3, v8, v9, rfl, hq⟩ := hM
          have e : LsRows.told ⟨0, LsAns.ints [f.cls, EditSpec.kindOf f.shape, f.shape.places.length] ++ EditSpec.coords f.shape.places, f.name⟩ = ([0, (f.cls : Int), (EditSpec.kindOf f.shape : Int), (f.shape.places.length : Int)] ++ EditSpec.coords f.shape.places) ++ nb f.name := by
            rw [told_eq]; simp [LsAns.ints]
          show Run _ _ _ _ (RLst RI (LsRows.told ⟨0, LsAns.ints [f.cls, EditSpec.kindOf f.shape, f.shape.places.length] ++ EditSpec.coords f.shape.places, f.name⟩)) _
          rw [e]
          refine s_ret s' (e_cat ((ev_var rfl).imp fun v H5 e h => by cases h; exact ⟨p, rfl, ints_iff.mpr (e _ _ hq)⟩) (fun H5 s5 => (e_name T (ev_var rfl) ((hfa.mono s').mono s5)).imp fun v H6 _ h => ints_isL.mp h) ?_)
          rw [List.length_append, coords_len, nb_len]; simp; omega
end
end Wk
end
/-! ### WTell2 -/
section
set_option Elab.async false
set_option linter.all false
set_option maxRecDepth 100000
set_option maxHeartbeats 2000000
namespace Wk
open PySem PySem.Spec PyProof.Rows L2
open LsGeo (Pt)
open LsRefs (Sheet)
open LsText (Bytes)
open LsLand (Feature Land)
open LsEdit (Log What)
section
variable {P : Program} {w : World} {K : PySem.W.Frag} {mg : Str → Option Value} {base : Heap} {A : Ad} {σ : L2.St} {H B : Hp} {ta tb te to td ty tv : TE} {u : TS} {R Ra : RR} {N : L2.St → Hp → Prop} {L : Land} {z : En} {c : Sheet} {x : LsEdit.Edition}
theorem vRow0 {b : Bytes} {ra : Addr} {bs : List Bytes} (ha : EvP ta σ H (isV (.ref ra))) (h : LstAt RBy H ra (b :: bs)) : EvP (tOp (rIxL K) ta (tC (.int 0))) σ H (RBy b) := e_ixF (k := 0) ha ev_c h rfl rfl
theorem vRow1 {b d : Bytes} {ra : Addr} {bs : List Bytes} (ha : EvP ta σ H (isV (.ref ra))) (h : LstAt RBy H ra (d :: b :: bs)) : EvP (tOp (rIxL K) ta (tC (.int 1))) σ H (RBy b) := e_ixF (k := 1) ha ev_c h rfl rfl
/-- a slot's thing, told by what is true of it -/
theorem vR [Mono R] {i : Nat} {v : V} {H0 : Hp} (hv : R v H0) (e : Same H0 H) (h : σ[i]? = some (some v)) : EvP (tVar i) σ H R := (ev_var h).imp fun u H2 s q => by cases q; exact Mono.mono (e.trans s) hv
theorem s_refused {i : Nat} {v : V} {b : Bytes} {bad : Bool} {f : Sheet → LsAns.Ans} (s : Same B H) (hv : RLst RI (refP (!bad) [b]) v H) (hσ : σ[i]? = some (some v))
    (k : ∀ s, LsRefs.readCode b = .ok s → bad = false → b.length ≤ 32 → Run u σ B H (RLst RI (LsRows.told (f s))) N) :
    Run (tSeq (tIfS (tTest (tOp (rI0 fun i j => .bl (decide (j < i))) (tCB (fun xs H Q => ∃ p ys, xs = [.ref p] ∧ (SqL K H p ys ∨ SqT K H p ys) ∧ Q (.int ys.length) H) (tCons (tVar i) tNil)) (tC (.int 0)))) (tRet (tVar i)) tNext) u) σ B H (RLst RI (LsRows.told (EditSpec.ofCode b bad f))) N := by
  refine s_when (et_test (e_gt (e_lenRI (vR hv (Same.refl _) hσ)) ev_c)) (fun c1 => s_ret s ?_) fun c1 => ?_
  · rcases ofCode_cases b bad f with ⟨h1, h2⟩ | ⟨h1, h2, h3⟩
    · rw [h2]; exact vR hv (Same.refl _) hσ
    · have := of_decide_eq_true c1
      omega
  · rcases ofCode_cases b bad f with ⟨h1, h2⟩ | ⟨h1, h2, t, h3, h4, h5⟩
    · have := of_decide_eq_false c1
      omega
    · rw [h4]; exact k t h3 h2 h5
theorem e_sheetText {E : XK} {ts tk tdd tl : TE} {k day : Nat} (hs : EvP ts σ H (RSh c)) (hk : ∀ H1, Same H H1 → EvP tk σ H1 (isV (.int k))) (hd : ∀ H1, Same H H1 → EvP tdd σ H1 (isV (.int day))) (hl : ∀ H1, Same H H1 → EvP tl σ H1 (RLand A L)) (hc : okSh c) (k6 : k < 1000000) (d6 : day < 1000000) (g : okL L) :
    EvP (tCall (sp_sheet_text K A) [] E (tCons ts (tCons tk (tCons tdd (tCons tl tNil))))) σ H (RLst RI (nb (LsEdit.sheetText c k day L))) :=
  e_call (ea_consG hs fun H1 s => ea_consG (R := isV (.int k)) (hk H1 s) fun H2 s2 => ea_consG (R := isV (.int day)) (hd H2 (s.trans s2)) fun H3 s3 => ea_consG (hl H3 ((s.trans s2).trans s3)) fun _ _ => ea_nil) fun vs H1 e hv => by
    obtain ⟨v, r, rfl, ⟨sa, rfl, hsa⟩, v2, r2, rfl, h2, v3, r3, rfl, h3, v4, r4, rfl, ⟨d, rfl, hd⟩, hr⟩ := hv
    cases h2; cases h3; cases hr
    exact ⟨sa, d, c, k, day, L, rfl, hsa, hc, k6, d6, hd, g.ris, by have := g.len; omega, g.all, rfl⟩
theorem sheetText_len {k day : Nat} (hc : okSh c) (k6 : k < 1000000) (d6 : day < 1000000) (g : okL L) : (LsEdit.sheetText c k day L).length ≤ 1000000 := by
  rw [sheetText_eq, List.length_append]
  have a := sheetHead_len hc k6 d6
  have b := flat_len g.all
  have := g.len
  omega
theorem told_gives (b : Bytes) : LsRows.told (LsAns.gives b) = ((nb b).length : Int) :: nb b := by
  rw [told_eq, nb_len]; rfl
theorem ok_tell_text (T : Txt K mg A) (c_Logbook_editions : C8.Met P w K mg base 3 A.aLogbook "editions" (sp_Logbook_editions K A) []) (c_counted : C8.Cal P w K mg base 1 "counted" (sp_counted K A) []) (c_refusal : C8.Cal P w K mg base 2 "refusal" (sp_refusal K A) []) (c_sheet_of : C8.Cal P w K mg base 1 "sheet_of" (sp_sheet_of K A) []) (c_sheet_text : C8.Cal P w K mg base 3 "sheet_text" (sp_sheet_text K A) []) {f : Addr} {fd : FuncData} (F : C8.Def K mg "tell_text" s_tell_text f fd) (bb : Binds K fd ["log", "numbers", "rows"] []) : C8.Cal P w K mg base 4 "tell_text" (sp_tell_text K A) [] := by
  refine C8.cal0 F bb .nil sc_tell_text (fun vs H Q E h => ?_) (fun cdv Ar outer s H vs Q E hr h => ?_)
  · obtain ⟨R, ⟨g, ea, na, ra, zs, ns, bs, q, rfl, _⟩, _⟩ := h
    rfl
  · obtain ⟨R, ⟨g, ea, na, ra, zs, ns, bs, q, rfl, hL, gd, hn, hb, l1, l2, hq, rfl⟩, k⟩ := h
    obtain ⟨ed, rfl⟩ : ∃ d, ns = [d] := len1 l1
    obtain ⟨b, rfl⟩ : ∃ d, bs = [d] := len1 l2
    cases hq
    rw [t_text] at k
    refine ⟨_, (pss_cons (ps_set (i := 3) sc_tell_text.nd rfl (Or.inl rfl) (pe_ix ix_list (pv 1) pe_int (fun _ _ => rfl))) (pss_cons (ps_set (i := 4) sc_tell_text.nd rfl (Or.inl rfl) (C8.pe_c c_refusal hr (by decide) rfl (pa_cons (pe_cmpR op_gt (pv 3) pe_int (nomark _)) (pa_cons (pv 2) pa_nil)))) (pss_cons (ps_if (pt_cmpR op_gt (pe_callB call_len_seq (by rfl) T.len (by decide +kernel) (pa_cons (pv 4) pa_nil)) pe_int (nomark _)) (pss_one (ps_ret (pv 4))) pss_nil) (pss_cons (ps_set (i := 5) sc_tell_text.nd rfl (Or.inl rfl) (C8.pe_c c_sheet_of hr (by decide) rfl (pa_cons (pe_ix ix_list (pv 2) pe_int (fun _ _ => rfl)) pa_nil))) (pss_cons (ps_set (i := 6) sc_tell_text.nd rfl (Or.inl rfl) (C8.pe_mt c_Logbook_editions hr (by decide) (pv 0) (pa_cons (pv 5) (pa_cons (C8.pe_gc rfl T.g_LAST_DAY) pa_nil)))) (pss_cons (ps_if (pt_cmpR op_gt (pv 3) (pe_callB call_len_seq (by rfl) T.len (by decide +kernel) (pa_cons (pv 6) pa_nil)) (nomark _)) (pss_one (ps_ret (pe_lst (pa_cons (C8.pe_gc rfl T.g_NO_SUCH) pa_nil)))) pss_nil) (pss_cons (ps_set (i := 7) sc_tell_text.nd rfl (Or.inl rfl) (pe_ix ix_list (pv 6) (pe_op op_sub (pv 3) pe_int) (fun _ _ => rfl))) (pss_one (ps_ret (C8.pe_c c_counted hr (by decide) rfl (pa_cons (C8.pe_c c_sheet_text hr (by decide) rfl (pa_cons (pv 5) (pa_cons (pv 3) (pa_cons (pe_fld (pv 7) rfl) (pa_cons (pe_fld (pv 7) rfl) pa_nil))))) pa_nil))))))))))), body (s_set (e_num0 (ev_var rfl) hn) fun v H1 s1 hv => ?_) k⟩
    cases hv
    refine s_set (e_refusal (b := !(ed == 0)) ((e_gt (ev_var rfl) ev_c).is (congrArg V.bl ?_)) (ev_var rfl) (hb.mono s1)) fun v H2 s2 hv => ?_
    · rw [Bool.eq_iff_iff]; simp; omega
    have s12 := s1.trans s2
    refine s_refused s12 hv rfl fun s hs hbad hl => ?_
    have k1 : ed ≠ 0 := by simpa using hbad
    have ok := read_ok hs
    refine s_set (vSheet (vRow0 (ev_var rfl) (hb.mono s12)) hl hs) fun v H3 s3 hsv => ?_
    have s13 := s12.trans s3
    refine s_set (e_editions (d := 99999) (ev_var rfl) (vR hsv (Same.refl _) rfl) ev_c (hL.mono s13) gd) fun v H4 s4 hev => ?_
    rw [upTo_all gd] at hev
    have s14 := s13.trans s4
    have el : (LsEdit.editions (lg zs) s).length ≤ 400 := Nat.le_trans eds_len gd.len
    refine s_when (et_test (e_gt (ev_var rfl) (e_lenL (vR hev (Same.refl _) rfl)))) (fun c1 => s_ret s14 ?_) fun c1 => ?_
    · have h1 : ((LsEdit.editions (lg zs) s).length : Int) < (ed : Int) := of_decide_eq_true c1
      rw [List.getElem?_eq_none (by omega)]
      exact e_retI ev_c
    · have h1 : ¬ ((LsEdit.editions (lg zs) s).length : Int) < (ed : Int) := of_decide_eq_false c1
      have gx := List.getElem?_eq_getElem (show ed - 1 < (LsEdit.editions (lg zs) s).length by omega)
      rw [gx]
      have ge := gd.ed (List.mem_of_getElem? gx)
      have gday := ge.day
      refine s_set (e_ixR (vR hev (Same.refl _) rfl) (e_sub (ev_var rfl) ev_c) (show ((ed : Int) - 1) = ((ed - 1 : Nat) : Int) by omega) gx) fun v H5 s5 hx => s_ret (s14.trans s5) ?_
      show EvP _ _ _ (RLst RI (LsRows.told (LsAns.gives _)))
      rw [told_gives]
      exact e_counted (e_sheetText (vR hsv (s4.trans s5) rfl) (fun _ _ => ev_var rfl) (fun H6 s6 => e_dayR T (vR hx s6 rfl)) (fun H6 s6 => e_featR T (vR hx s6 rfl)) ok (by omega) (by omega) ge.land) (by rw [nb_len]; have := sheetText_len (k := ed) ok (by omega) (show (LsEdit.editions (lg zs) s)[ed - 1].day < 1000000 by omega) ge.land; omega)
theorem ok_tell_now (T : Txt K mg A) (c_Logbook_editions : C8.Met P w K mg base 3 A.aLogbook "editions" (sp_Logbook_editions K A) []) (c_Logbook_land_of : C8.Met P w K mg base 2 A.aLogbook "land_of" (sp_Logbook_land_of K A) []) (c_counted : C8.Cal P w K mg base 1 "counted" (sp_counted K A) []) (c_features_on : C8.Cal P w K mg base 5 "features_on" (sp_features_on K A) []) (c_is_day : C8.Cal P w K mg base 1 "is_day" (sp_is_day K A) []) (c_refusal : C8.Cal P w K mg base 2 "refusal" (sp_refusal K A) []) (c_sheet_of : C8.Cal P w K mg base 1 "sheet_of" (sp_sheet_of K A) []) (c_sheet_text : C8.Cal P w K mg base 3 "sheet_text" (sp_sheet_text K A) []) {f : Addr} {fd : FuncData} (F : C8.Def K mg "tell_now" s_tell_now f fd) (bb : Binds K fd ["log", "numbers", "rows"] []) : C8.Cal P w K mg base 6 "tell_now" (sp_tell_now K A) [] := by
  refine C8.cal0 F bb .nil sc_tell_now (fun vs H Q E h => ?_) (fun cdv Ar outer s H vs Q E hr h => ?_)
  · obtain ⟨R, ⟨g, ea, na, ra, zs, ns, bs, q, rfl, _⟩, _⟩ := h
    rfl
  · obtain ⟨R, ⟨g, ea, na, ra, zs, ns, bs, q, rfl, hL, gd, hn, hb, l1, l2, hq, rfl⟩, k⟩ := h
    obtain ⟨d, rfl⟩ : ∃ d, ns = [d] := len1 l1
    obtain ⟨b, rfl⟩ : ∃ d, bs = [d] := len1 l2
    cases hq
    rw [t_now] at k
    have gu := gd.landUp d
    refine ⟨_, (pss_cons (ps_set (i := 3) sc_tell_now.nd rfl (Or.inl rfl) (pe_ix ix_list (pv 1) pe_int (fun _ _ => rfl))) (pss_cons (ps_set (i := 4) sc_tell_now.nd rfl (Or.inl rfl) (C8.pe_c c_refusal hr (by decide) rfl (pa_cons (C8.pe_c c_is_day hr (by decide) rfl (pa_cons (pv 3) pa_nil)) (pa_cons (pv 2) pa_nil)))) (pss_cons (ps_if (pt_cmpR op_gt (pe_callB call_len_seq (by rfl) T.len (by decide +kernel) (pa_cons (pv 4) pa_nil)) pe_int (nomark _)) (pss_one (ps_ret (pv 4))) pss_nil) (pss_cons (ps_set (i := 5) sc_tell_now.nd rfl (Or.inl rfl) (C8.pe_c c_sheet_of hr (by decide) rfl (pa_cons (pe_ix ix_list (pv 2) pe_int (fun _ _ => rfl)) pa_nil))) (pss_cons (ps_set (i := 6) sc_tell_now.nd rfl (Or.inl rfl) (pe_op op_add (pe_callB call_len_seq (by rfl) T.len (by decide +kernel) (pa_cons (C8.pe_mt c_Logbook_editions hr (by decide) (pv 0) (pa_cons (pv 5) (pa_cons (pv 3) pa_nil))) pa_nil)) pe_int)) (pss_one (ps_ret (C8.pe_c c_counted hr (by decide) rfl (pa_cons (C8.pe_c c_sheet_text hr (by decide) rfl (pa_cons (pv 5) (pa_cons (pv 6) (pa_cons (pv 3) (pa_cons (C8.pe_c c_features_on hr (by decide) rfl (pa_cons (C8.pe_mt c_Logbook_land_of hr (by decide) (pv 0) (pa_cons (pv 3) pa_nil)) (pa_cons (pv 5) pa_nil))) pa_nil))))) pa_nil))))))))), body (s_set (e_num0 (ev_var rfl) hn) fun v H1 s1 hv => ?_) k⟩
    cases hv
    refine s_set (e_refusal (b := !(!EditSpec.isDay d)) ((e_isDay (ev_var rfl)).is (by rw [isDay_eq, Bool.not_not])) (ev_var rfl) (hb.mono s1)) fun v H2 s2 hv => ?_
    have s12 := s1.trans s2
    refine s_refused s12 hv rfl fun s hs hbad hl => ?_
    have hd : d ≤ 99999 := by
      have : EditSpec.isDay d = true := by simpa using hbad
      unfold EditSpec.isDay LsEdit.DAYS at this
      exact of_decide_eq_true this
    have ok := read_ok hs
    refine s_set (vSheet (vRow0 (ev_var rfl) (hb.mono s12)) hl hs) fun v H3 s3 hsv => ?_
    have s13 := s12.trans s3
    have el : (LsEdit.editions (LsEdit.upTo (lg zs) d) s).length ≤ 400 := Nat.le_trans eds_len (gd.upTo d).len
    refine s_set (Ra := isV (.int ((LsEdit.editions (LsEdit.upTo (lg zs) d) s).length + 1 : Nat))) ((e_add (e_lenL (e_editions (ev_var rfl) (vR hsv (Same.refl _) rfl) (ev_var rfl) (hL.mono s13) gd)) ev_c).is (congrArg V.int (by omega))) fun v H4 s4 hv => ?_
    cases hv
    have s14 := s13.trans s4
    refine s_ret s14 ?_
    show EvP _ _ _ (RLst RI (LsRows.told (LsAns.gives _)))
    rw [told_gives]
    exact e_counted (e_sheetText (vR hsv s4 rfl) (fun _ _ => ev_var rfl) (fun _ _ => ev_var rfl) (fun H6 s6 => e_featOn (e_landOf (ev_var rfl) (ev_var rfl) ((hL.mono s14).mono s6) gd) (fun H7 s7 => vR hsv ((s4.trans s6).trans s7) rfl) gu.ris (by have := gu.len; omega) gu.all ok.1) ok (by omega) (by omega) (gu.on s)) (by rw [nb_len]; have := sheetText_len (k := (LsEdit.editions (LsEdit.upTo (lg zs) d) s).length + 1) (day := d) ok (by omega) (by omega) (gu.on s); omega)
theorem e_changesSince {E : XK} {g ea : Addr} {zs : List En} {d i : Nat} {ts : TE} (hi : σ[i]? = some (some (.ref g))) (hs : EvP ts σ H (RSh c)) (hd : ∀ H1, Same H H1 → EvP td σ H1 (isV (.int d))) (hL : LogP A H g ea zs) (gd : GoodL (lg zs)) (hc : c.length ≤ 6) : EvP (tCall (sp_changes_since K A) [] E (tCons (tVar i) (tCons ts (tCons td tNil)))) σ H (RChg (LsEdit.latest (lg zs) c d) (LsEdit.onSheet (LsEdit.landOf (LsEdit.upTo (lg zs) d)) c)) :=
  e_call (ea_cons_var hi (ea_consG hs fun H1 s => ea_consG (R := isV (.int d)) (hd H1 s) fun _ _ => ea_nil)) fun vs H1 e hv => by
    obtain ⟨r0, rfl, v, r, rfl, ⟨sa, rfl, hsa⟩, v2, r2, rfl, h2, hr⟩ := hv
    cases h2; cases hr
    exact ⟨g, ea, sa, zs, c, d, rfl, hL.mono e, gd, hsa, hc, rfl⟩
theorem isOld_none {l : Log} {d : Nat} (h : LsEdit.latest l c d = none) : LsEdit.isOld l d c = false := by unfold LsEdit.isOld; rw [h]
theorem isOld_some {l : Log} {d : Nat} (h : LsEdit.latest l c d = some x) : LsEdit.isOld l d c = (x.land != LsEdit.onSheet (LsEdit.landOf (LsEdit.upTo l d)) c) := by unfold LsEdit.isOld; rw [h]
theorem old_len {l : Log} {d : Nat} (g : GoodL l) (h : LsEdit.latest l c d = some x) : LsEdit.isOld l d c = decide (0 < (LsEdit.changed x.land (LsEdit.onSheet (LsEdit.landOf (LsEdit.upTo l d)) c)).length) := by
  have ge := (g.upTo d).ed (List.mem_of_getLast? h)
  rw [isOld_some h, Bool.eq_iff_iff, bne_iff_ne, decide_eq_true_eq]
  have := La.changed_nil ge.ris ((g.landUp d).on c).ris
  rw [ne_eq, ← this]; omega
theorem ok_tell_old (T : Txt K mg A) (c_changes_since : C8.Cal P w K mg base 6 "changes_since" (sp_changes_since K A) []) (c_is_day : C8.Cal P w K mg base 1 "is_day" (sp_is_day K A) []) (c_refusal : C8.Cal P w K mg base 2 "refusal" (sp_refusal K A) []) (c_sheet_of : C8.Cal P w K mg base 1 "sheet_of" (sp_sheet_of K A) []) {f : Addr} {fd : FuncData} (F : C8.Def K mg "tell_old" s_tell_old f fd) (bb : Binds K fd ["log", "numbers", "rows"] []) : C8.Cal P w K mg base 7 "tell_old" (sp_tell_old K A) [] := by
  refine C8.cal0 F bb .nil sc_tell_old (fun vs H Q E h => ?_) (fun cdv Ar outer s H vs Q E hr h => ?_)
  · obtain ⟨R, ⟨g, ea, na, ra, zs, ns, bs, q, rfl, _⟩, _⟩ := h
    rfl
  · obtain ⟨R, ⟨g, ea, na, ra, zs, ns, bs, q, rfl, hL, gd, hn, hb, l1, l2, hq, rfl⟩, k⟩ := h
    obtain ⟨d, rfl⟩ : ∃ d, ns = [d] := len1 l1
    obtain ⟨b, rfl⟩ : ∃ d, bs = [d] := len1 l2
    cases hq
    rw [t_old] at k
    refine ⟨_, (pss_cons (ps_set (i := 3) sc_tell_old.nd rfl (Or.inl rfl) (pe_ix ix_list (pv 1) pe_int (fun _ _ => rfl))) (pss_cons (ps_set (i := 4) sc_tell_old.nd rfl (Or.inl rfl) (C8.pe_c c_refusal hr (by decide) rfl (pa_cons (C8.pe_c c_is_day hr (by decide) rfl (pa_cons (pv 3) pa_nil)) (pa_cons (pv 2) pa_nil)))) (pss_cons (ps_if (pt_cmpR op_gt (pe_callB call_len_seq (by rfl) T.len (by decide +kernel) (pa_cons (pv 4) pa_nil)) pe_int (nomark _)) (pss_one (ps_ret (pv 4))) pss_nil) (pss_cons (ps_set (i := 5) sc_tell_old.nd rfl (Or.inl rfl) (C8.pe_c c_changes_since hr (by decide) rfl (pa_cons (pv 0) (pa_cons (C8.pe_c c_sheet_of hr (by decide) rfl (pa_cons (pe_ix ix_list (pv 2) pe_int (fun _ _ => rfl)) pa_nil)) (pa_cons (pv 3) pa_nil))))) (pss_cons (ps_if (pt_cmpR op_isN (pv 5) pe_non (nomark _)) (pss_one (ps_ret (pe_lst (pa_cons (C8.pe_gc rfl T.g_NO_SUCH) pa_nil)))) pss_nil) (pss_one (ps_ret (pe_lst (pa_cons (pe_ifExp (pt_cmpR op_gt (pe_callB call_len_seq (by rfl) T.len (by decide +kernel) (pa_cons (pv 5) pa_nil)) pe_int (nomark _)) pe_int pe_int) pa_nil))))))))), body (s_set (e_num0 (ev_var rfl) hn) fun v H1 s1 hv => ?_) k⟩
    cases hv
    refine s_set (e_refusal (b := !(!EditSpec.isDay d)) ((e_isDay (ev_var rfl)).is (by rw [isDay_eq, Bool.not_not])) (ev_var rfl) (hb.mono s1)) fun v H2 s2 hv => ?_
    have s12 := s1.trans s2
    refine s_refused s12 hv rfl fun s hs hbad hl => ?_
    have ok := read_ok hs
    refine s_set (e_changesSince rfl (vSheet (vRow0 (ev_var rfl) (hb.mono s12)) hl hs) (fun _ _ => ev_var rfl) (hL.mono s12) gd ok.1) fun v H3 s3 hcv => ?_
    have s13 := s12.trans s3
    cases hlt : LsEdit.latest (lg zs) s d with
    | none =>
      rw [hlt] at hcv
      cases hcv
      exact s_when (b := true) ((et_test (ev_op (ev_var rfl) ev_c rv_isN)).is (by decide)) (fun _ => s_ret s13 (e_retI ev_c)) fun z => by cases z
    | some x =>
      rw [hlt] at hcv
      have hcv : RLst RCh (LsEdit.changed x.land (LsEdit.onSheet (LsEdit.landOf (LsEdit.upTo (lg zs) d)) s)) v H3 := hcv
      have hcv2 := id hcv
      obtain ⟨p, rfl, hp⟩ := hcv2
      have ho := old_len gd hlt
      refine s_when (b := false) ((et_test (ev_op (ev_var rfl) ev_c rv_isN)).is (decide_eq_false fun z => by cases z)) (fun z => by cases z) fun _ => s_ret s13 ?_
      show EvP _ _ _ (RLst RI (LsRows.told (LsAns.says (if LsEdit.isOld (lg zs) d s = true then 1 else 0))))
      rw [told_says]
      refine e_retI (e_if (et_test (e_gt (e_lenL (vR hcv (Same.refl _) rfl)) ev_c)) (fun c1 => ?_) fun c1 => ?_)
      · rw [if_pos (by rw [ho]; exact decide_eq_true (by have := of_decide_eq_true c1; omega))]; exact ev_c
      · rw [if_neg (by rw [ho, decide_eq_true_eq]; have := of_decide_eq_false c1; omega)]; exact ev_c
end
end Wk
end
/-! ### WTell3 -/
section
set_option Elab.async false
set_option linter.all false
set_option maxRecDepth 100000
set_option maxHeartbeats 2000000
namespace Wk
open PySem PySem.Spec PyProof.Rows L2
open LsGeo (Pt)
open LsRefs (Sheet)
open LsText (Bytes)
open LsLand (Feature Land)
open LsEdit (Log What)
def pairsI (l : List (Nat × Nat)) : List Int := l.flatMap fun (x : Nat × Nat) => [(x.1 : Int), (x.2 : Int)]
theorem told_rows (l : List (Nat × Nat)) : LsRows.told (EditSpec.rows l) = (l.length : Int) :: pairsI l := by
  rw [told_eq]
  unfold EditSpec.rows LsAns.tells
  simp [nb, pairsI, LsAns.ints]
theorem pairsI_len (l : List (Nat × Nat)) : (pairsI l).length = 2 * l.length := by
  unfold pairsI
  induction l with
  | nil => rfl
  | cons a r ih => rw [List.flatMap_cons, List.length_append, ih, List.length_cons]; simp; omega
theorem pairsI_take {l : List (Nat × Nat)} {i : Nat} {x : Nat × Nat} (h : l[i]? = some x) : pairsI (l.take (i + 1)) = pairsI (l.take i) ++ [(x.1 : Int), (x.2 : Int)] := by unfold pairsI; rw [take_flat h]
theorem pairsI_app (l m : List (Nat × Nat)) : pairsI (l ++ m) = pairsI l ++ pairsI m := by unfold pairsI; rw [List.flatMap_append]
theorem changed_len {a b : Land} (ha : La.Ris a) (hb : La.Ris b) : (LsEdit.changed a b).length ≤ a.length + b.length := by
  obtain ⟨h1, h2⟩ := La.nums_ok ha hb
  rw [La.changed_eq ha hb h1 h2]
  exact Nat.le_trans (List.length_filterMap_le _ _) (La.nums_len a b)
def hist1 (n : Nat) (L : Land) (e : Ey) : List (Nat × Nat) := match e.what with
  | .put f => if f.number = n then [(e.day, if (LsLand.find L n).isSome = true then 1 else 0)] else []
  | .out m => if m = n then [(e.day, 2)] else []
  | .issue _ => []
theorem hist_take {n : Nat} {l : Log} {i : Nat} {e : Ey} (h : l[i]? = some e) : LsEdit.historyFrom n [] (l.take (i + 1)) = LsEdit.historyFrom n [] (l.take i) ++ hist1 n (landFrom [] (l.take i)) e := by
  obtain ⟨hi, e1⟩ := List.getElem?_eq_some_iff.mp h
  rw [← List.take_append_getElem hi, hist_app, e1]
  congr 1
  exact List.append_nil _
theorem told_codes (L : List Sheet) : LsRows.told (EditSpec.codesAns L) = (L.length : Int) :: nb (LsText.spaced (L.map LsRefs.codeText)) := by
  rw [told_eq]; rfl
theorem sheets_ok {f : Feature} : ∀ (k : Nat) (found : List Sheet) (i : Nat), i + k ≤ 6 → (∀ c ∈ found, c.length ≤ i ∧ ∀ d ∈ c, 1 ≤ d ∧ d ≤ 4) → ∀ c ∈ Ge.sheetsFrom f k found, okSh c
  | 0, found, i, hk, h => fun c hc => ⟨by have := (h c hc).1; omega, (h c hc).2⟩
  | k + 1, found, i, hk, h => by
    have step : ∀ c ∈ found.flatMap (Ge.quarts f), c.length ≤ i + 1 ∧ ∀ d ∈ c, 1 ≤ d ∧ d ≤ 4 := fun c hc => by
      obtain ⟨p, hp, hq⟩ := List.mem_flatMap.mp hc
      unfold Ge.quarts at hq
      rw [List.mem_filter, List.mem_map] at hq
      obtain ⟨⟨x, hx, rfl⟩, _⟩ := hq
      have hp2 := h p hp
      refine ⟨by simp; omega, fun d hd => ?_⟩
      rcases List.mem_append.mp hd with hd | hd
      · exact hp2.2 d hd
      · rw [List.mem_singleton] at hd
        subst hd
        simp at hx; omega
    intro c hc
    unfold Ge.sheetsFrom at hc
    simp only at hc
    split at hc
    · have := step c hc
      exact ⟨by omega, this.2⟩
    · exact sheets_ok k _ (i + 1) (by omega) step c hc
section
variable {P : Program} {w : World} {K : PySem.W.Frag} {mg : Str → Option Value} {base : Heap} {A : Ad} {σ : L2.St} {H B : Hp} {ta tb te to td ty tv : TE} {u : TS} {R Ra : RR} {N : L2.St → Hp → Prop} {L : Land} {z : En} {c : Sheet} {x : LsEdit.Edition}
def sp_tell_changes (K : PySem.W.Frag) (A : Ad) : Sp := spTell 1 1 (fun ns bs => match ns, bs with
  | [d], [c] => some (.changes c d)
  | _, _ => none) A
def sp_tell_history (K : PySem.W.Frag) (A : Ad) : Sp := spTell 1 0 (fun ns bs => (ns[0]?).map .history) A
def sp_tell_olds (K : PySem.W.Frag) (A : Ad) : Sp := spTell 1 0 (fun ns bs => (ns[0]?).map .olds) A
def sp_tell_editions (K : PySem.W.Frag) (A : Ad) : Sp := spTell 0 1 (fun ns bs => (bs[0]?).map .editions) A
def sp_tell_sheets (K : PySem.W.Frag) (A : Ad) : Sp := spTell 2 0 (fun ns bs => match ns with
  | [n, s] => some (.sheets n s)
  | _ => none) A
def sp_tell_torn (K : PySem.W.Frag) (A : Ad) : Sp := spTell 0 2 (fun ns bs => match bs with
  | [c, e] => some (.torn c e)
  | _ => none) A
def sp_tell_last (K : PySem.W.Frag) (A : Ad) : Sp := spTell 0 0 (fun ns bs => some .last) A
theorem ok_tell_changes (T : Txt K mg A) (c_changes_since : C8.Cal P w K mg base 6 "changes_since" (sp_changes_since K A) []) (c_is_day : C8.Cal P w K mg base 1 "is_day" (sp_is_day K A) []) (c_refusal : C8.Cal P w K mg base 2 "refusal" (sp_refusal K A) []) (c_sheet_of : C8.Cal P w K mg base 1 "sheet_of" (sp_sheet_of K A) []) {f : Addr} {fd : FuncData} (F : C8.Def K mg "tell_changes" s_tell_changes f fd) (bb : Binds K fd ["log", "numbers", "rows"] []) : C8.Cal P w K mg base 7 "tell_changes" (sp_tell_changes K A) [] := by
  refine C8.cal0 F bb .nil sc_tell_changes (fun vs H Q E h => ?_) (fun cdv Ar outer s H vs Q E hr h => ?_)
  · obtain ⟨R, ⟨g, ea, na, ra, zs, ns, bs, q, rfl, _⟩, _⟩ := h
    rfl
  · obtain ⟨R, ⟨g, ea, na, ra, zs, ns, bs, q, rfl, hL, gd, hn, hb, l1, l2, hq, rfl⟩, k⟩ := h
    obtain ⟨d, rfl⟩ : ∃ d, ns = [d] := len1 l1
    obtain ⟨b, rfl⟩ : ∃ d, bs = [d] := len1 l2
    cases hq
    rw [t_changes] at k
    refine ⟨_, (pss_cons (ps_set (i := 3) sc_tell_changes.nd rfl (Or.inl rfl) (pe_ix ix_list (pv 1) pe_int (fun _ _ => rfl))) (pss_cons (ps_set (i := 4) sc_tell_changes.nd rfl (Or.inl rfl) (C8.pe_c c_refusal hr (by decide) rfl (pa_cons (C8.pe_c c_is_day hr (by decide) rfl (pa_cons (pv 3) pa_nil)) (pa_cons (pv 2) pa_nil)))) (pss_cons (ps_if (pt_cmpR op_gt (pe_callB call_len_seq (by rfl) T.len (by decide +kernel) (pa_cons (pv 4) pa_nil)) pe_int (nomark _)) (pss_one (ps_ret (pv 4))) pss_nil) (pss_cons (ps_set (i := 5) sc_tell_changes.nd rfl (Or.inl rfl) (C8.pe_c c_changes_since hr (by decide) rfl (pa_cons (pv 0) (pa_cons (C8.pe_c c_sheet_of hr (by decide) rfl (pa_cons (pe_ix ix_list (pv 2) pe_int (fun _ _ => rfl)) pa_nil)) (pa_cons (pv 3) pa_nil))))) (pss_cons (ps_if (pt_cmpR op_isN (pv 5) pe_non (nomark _)) (pss_one (ps_ret (pe_lst (pa_cons (C8.pe_gc rfl T.g_NO_SUCH) pa_nil)))) pss_nil) (pss_cons (ps_set (i := 6) sc_tell_changes.nd rfl (Or.inl rfl) (pe_lst (pa_cons (pe_callB call_len_seq (by rfl) T.len (by decide +kernel) (pa_cons (pv 5) pa_nil)) pa_nil))) (pss_cons (ps_for PassesOwn.never rfl (pi_list (pv 5)) (pg_tup rfl (pgs_cons (pg_name (i := 7) sc_tell_changes.nd rfl (Or.inl rfl)) (pgs_cons (pg_name (i := 8) sc_tell_changes.nd rfl (Or.inl rfl)) pgs_nil))) (pss_one (ps_expr (pe_bm PySem.F.plainAttrs_list PySem.F.slot_list_extend PySem.F.type_list_extend mt_extend (pv 6) (pa_cons (pe_lst (pa_cons (pv 7) (pa_cons (pv 8) pa_nil))) pa_nil))))) (pss_one (ps_ret (pv 6)))))))))), body (s_set (e_num0 (ev_var rfl) hn) fun v H1 s1 hv => ?_) k⟩
    cases hv
    refine s_set (e_refusal (b := !(!EditSpec.isDay d)) ((e_isDay (ev_var rfl)).is (by rw [isDay_eq, Bool.not_not])) (ev_var rfl) (hb.mono s1)) fun v H2 s2 hv => ?_
    have s12 := s1.trans s2
    refine s_refused s12 hv rfl fun s hs hbad hl => ?_
    have ok := read_ok hs
    refine s_set (e_changesSince rfl (vSheet (vRow0 (ev_var rfl) (hb.mono s12)) hl hs) (fun _ _ => ev_var rfl) (hL.mono s12) gd ok.1) fun v H3 s3 hcv => ?_
    have s13 := s12.trans s3
    cases hlt : LsEdit.latest (lg zs) s d with
    | none =>
      rw [hlt] at hcv
      cases hcv
      exact s_when (b := true) ((et_test (ev_op (ev_var rfl) ev_c rv_isN)).is (by decide)) (fun _ => s_ret s13 (e_retI ev_c)) fun z => by cases z
    | some x =>
      rw [hlt] at hcv
      have hcv : RLst RCh (LsEdit.changed x.land (LsEdit.onSheet (LsEdit.landOf (LsEdit.upTo (lg zs) d)) s)) v H3 := hcv
      obtain ⟨p, rfl, hp⟩ := id hcv
      have ge := (gd.upTo d).ed (List.mem_of_getLast? hlt)
      have gu := gd.landUp d
      have cl := changed_len ge.ris (gu.on s).ris
      have := ge.len
      have := (gu.on s).len
      refine s_when (b := false) ((et_test (ev_op (ev_var rfl) ev_c rv_isN)).is (decide_eq_false fun z => by cases z)) (fun z => by cases z) fun _ => Run.base s13 ?_
      show Run _ _ _ _ (RLst RI (LsRows.told (EditSpec.rows (LsEdit.changed x.land (LsEdit.onSheet (LsEdit.landOf (LsEdit.upTo (lg zs) d)) s))))) _
      rw [told_rows]
      generalize LsEdit.changed x.land (LsEdit.onSheet (LsEdit.landOf (LsEdit.upTo (lg zs) d)) s) = C at *
      refine s_set (e_lstF (vs := [.int C.length]) (ea_cons (e_lenL (vR hcv (Same.refl _) rfl)) ea_nil) (by show 1 ≤ 1000000; decide)) fun v H4 s4 hv => ?_
      obtain ⟨t, rfl, ht, hB⟩ := hv
      refine s_seq (M := fun σ' H' => ∃ v3 v4 v7 v8, σ' = [some (.ref g), some (.ref na), some (.ref ra), v3, v4, some (.ref p), some (.ref t), v7, v8] ∧ H' t = some (.lst (((C.length : Int) :: pairsI C).map V.int))) (s_forB2 (F := RCh) (L := C) s4 (ev_var rfl) hp
        (fun i σ' H' => ∃ v3 v4 v7 v8, σ' = [some (.ref g), some (.ref na), some (.ref ra), v3, v4, some (.ref p), some (.ref t), v7, v8] ∧ H' t = some (.lst (((C.length : Int) :: pairsI (C.take i)).map V.int))) (fun H5 e => ⟨_, _, _, _, rfl, e _ _ ht⟩) (fun i z v σ' H' hz hv sB q => ?_) fun σ' H' sB q => ?_) fun σ' H' s' hM => ?_
      · obtain ⟨v3, v4, v7, v8, rfl, hq⟩ := q
        obtain ⟨r, rfl, hr⟩ := hv
        refine ⟨r, _, _, rfl, sB _ _ hr, s_extN (F := RI) (ys := [(z.1 : Int), (z.2 : Int)]) sB hB hq (ev_var rfl) (e_lstI (ns := [(z.1 : Int), (z.2 : Int)]) (ea_v2 rfl rfl) (by show 2 ≤ 1000000; decide)) ?_ fun vs H5 s5 hvs sb => ⟨_, _, _, _, rfl, ?_⟩⟩
        · rw [List.length_map, List.length_cons, pairsI_len, List.length_take]; simp; omega
        · rw [upd_same, vals_map (g := V.int) hvs, pairsI_take hz, ← List.map_append]; rfl
      · obtain ⟨v3, v4, v7, v8, rfl, hq⟩ := q
        rw [List.take_length] at hq
        exact ⟨_, _, _, _, rfl, hq⟩
      · obtain ⟨v3, v4, v7, v8, rfl, hq⟩ := hM
        exact s_ret s' ((ev_var rfl).imp fun v H5 e h => by cases h; exact ⟨t, rfl, ints_iff.mpr (e _ _ hq)⟩)
theorem ok_tell_history (T : Txt K mg A) (c_is_number : C8.Cal P w K mg base 1 "is_number" (sp_is_number K A) []) {f : Addr} {fd : FuncData} (F : C8.Def K mg "tell_history" s_tell_history f fd) (bb : Binds K fd ["log", "numbers", "rows"] []) : C8.Cal P w K mg base 2 "tell_history" (sp_tell_history K A) [] := by
  refine C8.cal0 F bb .nil sc_tell_history (fun vs H Q E h => ?_) (fun cdv Ar outer s H vs Q E hr h => ?_)
  · obtain ⟨R, ⟨g, ea, na, ra, zs, ns, bs, q, rfl, _⟩, _⟩ := h
    rfl
  · obtain ⟨R, ⟨g, ea, na, ra, zs, ns, bs, q, rfl, hL, gd, hn, hb, l1, l2, hq, rfl⟩, k⟩ := h
    obtain ⟨n, rfl⟩ : ∃ d, ns = [d] := len1 l1
    cases hq
    rw [t_history] at k
    have gl : zs.length ≤ 400 := by have := gd.len; unfold lg at this; rw [List.length_map] at this; exact this
    obtain ⟨dx, h1, h2, h3⟩ := id hL
    refine ⟨_, (pss_cons (ps_set (i := 3) sc_tell_history.nd rfl (Or.inl rfl) (pe_ix ix_list (pv 1) pe_int (fun _ _ => rfl))) (pss_cons (ps_if (pt_not (pt_val (C8.pe_c c_is_number hr (by decide) rfl (pa_cons (pv 3) pa_nil)))) (pss_one (ps_ret (pe_lst (pa_cons (C8.pe_gc rfl T.g_OUT_OF_BOUNDS) pa_nil)))) pss_nil) (pss_cons (ps_set (i := 4) sc_tell_history.nd rfl (Or.inl rfl) (pe_lst pa_nil)) (pss_cons (ps_for PassesOwn.never rfl (pi_list (pe_fld (pv 0) rfl)) (pg_name (i := 5) sc_tell_history.nd rfl (Or.inl rfl)) (pss_one (ps_if (PW.pt (pw_and (pt_val (pe_callB call_isi (by rfl) T.isinstance (by decide +kernel) (pa_cons (pv 5) (pa_cons (C8.pe_gc rfl T.g_Put) pa_nil)))) (pw_and1 (pt_cmpR op_eq (pe_fld (pv 5) rfl) (pv 3) (nomark _))))) (pss_one (ps_expr (pe_bm PySem.F.plainAttrs_list PySem.F.slot_list_extend PySem.F.type_list_extend mt_extend (pv 4) (pa_cons (pe_lst (pa_cons (pe_fld (pv 5) rfl) (pa_cons (pe_fld (pv 5) rfl) pa_nil))) pa_nil)))) (pss_one (ps_if (PW.pt (pw_and (pt_val (pe_callB call_isi (by rfl) T.isinstance (by decide +kernel) (pa_cons (pv 5) (pa_cons (C8.pe_gc rfl T.g_Out) pa_nil)))) (pw_and1 (pt_cmpR op_eq (pe_fld (pv 5) rfl) (pv 3) (nomark _))))) (pss_one (ps_expr (pe_bm PySem.F.plainAttrs_list PySem.F.slot_list_extend PySem.F.type_list_extend mt_extend (pv 4) (pa_cons (pe_lst (pa_cons (pe_fld (pv 5) rfl) (pa_cons (C8.pe_gc rfl T.g_WENT) pa_nil))) pa_nil)))) pss_nil))))) (pss_one (ps_ret (pe_op op_cat (pe_lst (pa_cons (pe_op op_fdiv (pe_callB call_len_seq (by rfl) T.len (by decide +kernel) (pa_cons (pv 4) pa_nil)) pe_int) pa_nil)) (pv 4)))))))), body (s_set (e_num0 (ev_var rfl) hn) fun v H1 s1 hv => ?_) k⟩
    cases hv
    refine s_when (et_not (et_B (e_isNumber (ev_var rfl)))) (fun c1 => s_ret s1 ?_) fun c1 => ?_
    · rw [isNum_eq, Bool.not_eq_true'] at c1
      rw [if_pos c1]; exact e_retI ev_c
    · rw [isNum_eq, Bool.not_eq_false'] at c1
      rw [if_neg (by rw [c1]; decide), told_rows]
      refine s_newL s1 fun p H2 hp0 s2 sB2 hB hp => ?_
      have hl2 : ∀ i, (LsEdit.historyFrom n [] ((lg zs).take i)).length ≤ 400 := fun i => Nat.le_trans hist_len (Nat.le_trans (List.length_take_le' _ _) gd.len)
      refine s_seq (M := fun σ' H' => ∃ v5, σ' = [some (.ref g), some (.ref na), some (.ref ra), some (.int n), some (.ref p), v5] ∧ H' p = some (.lst ((pairsI (LsEdit.historyFrom n [] (lg zs))).map V.int))) (s_forB (F := RZ) (L := zs) sB2 (e_entries T (ev_var rfl) (hL.mono sB2)) (logs_lst hL)
        (fun i σ' H' => ∃ v5, σ' = [some (.ref g), some (.ref na), some (.ref ra), some (.int n), some (.ref p), v5] ∧ H' p = some (.lst ((pairsI (LsEdit.historyFrom n [] ((lg zs).take i))).map V.int))) (fun H5 e => ⟨_, rfl, e _ _ hp⟩) (fun i z v σ' H' hz hv sB q => ?_) fun σ' H' sB q => ?_) fun σ' H' s' hM => ?_
      · obtain ⟨v5, rfl, hq⟩ := q
        cases hv
        have hEz := h3.get hz
        rw [lg_take] at hEz
        have hh := hl2 i
        rw [hist_take (lg_get hz)]
        unfold hist1
        unfold EntAt at hEz
        have ext : ∀ (y : Int) (te1 te2 : TE), (∀ H5, Same H' H5 → EvP te1 [some (.ref g), some (.ref na), some (.ref ra), some (.int n), some (.ref p), some (.ref z.2)] H5 (isV (.int z.1.day))) → (∀ H5, Same H' H5 → EvP te2 [some (.ref g), some (.ref na), some (.ref ra), some (.int n), some (.ref p), some (.ref z.2)] H5 (isV (.int y))) →
            ∀ (m : Nat), y = (m : Int) → Run (tDrop (tBM K "list" rExtend (tVar 4) (tCons (tLst (tCons te1 (tCons te2 tNil))) tNil))) [some (.ref g), some (.ref na), some (.ref ra), some (.int n), some (.ref p), some (.ref z.2)] H H' (RLst RI (((LsEdit.historyFrom n [] (lg zs)).length : Int) :: pairsI (LsEdit.historyFrom n [] (lg zs)))) (fun σ' H' => ∃ v5, σ' = [some (.ref g), some (.ref na), some (.ref ra), some (.int n), some (.ref p), v5] ∧ H' p = some (.lst ((pairsI (LsEdit.historyFrom n [] ((lg zs).take i) ++ [(z.1.day, m)])).map V.int))) := fun y te1 te2 ht1 ht2 m hy => by
          subst hy
          refine s_extN (F := RI) (ys := [(z.1.day : Int), (m : Int)]) sB hB hq (ev_var rfl) (e_lstI (ns := [(z.1.day : Int), (m : Int)]) (ea_cons (ht1 H' (Same.refl _)) (ea_cons (ht2 H' (Same.refl _)) ea_nil)) (by show 2 ≤ 1000000; decide)) ?_ fun vs H5 s5 hvs sb => ⟨_, rfl, ?_⟩
          · rw [List.length_map, pairsI_len]; simp; omega
          · rw [upd_same, vals_map (g := V.int) hvs, pairsI_app, ← List.map_append]; rfl
        cases hw : z.1.what with
        | put f =>
          rw [hw] at hEz
          obtain ⟨dx2, fa, h4, h5⟩ := hEz
          have h4' := sB _ _ h4
          refine s_if (b := decide (f.number = n)) ((et_and (et_B (e_isi (ev_var rfl) h4' T.i_Put T.k_Put_Put)) fun _ => et_test (e_eq (e_fld (ev_var rfl) h4' T.cl_Put T.n_Put_number putFs_number) (ev_var rfl))).is (by rw [Bool.true_and, decide_eq_decide]; omega)) (fun c2 => ?_) fun c2 => s_if ((et_and (et_B (e_isi (ev_var rfl) h4' T.i_Put T.k_Put_Out)) fun z => by cases z).is (b := false && true) rfl) (fun z => by cases z) fun _ => s_nx fun H5 e => ⟨sB.trans e, _, rfl, ?_⟩
          · have c3 := of_decide_eq_true c2
            simp only [if_pos c3]
            refine ext (wasI (landFrom [] ((lg zs).take i)) f.number) _ _ (fun H5 e => e_fld (ev_var rfl) (e _ _ h4') T.cl_Put T.n_Put_day putFs_day) (fun H5 e => e_fld (ev_var rfl) (e _ _ h4') T.cl_Put T.n_Put_was putFs_was) _ ?_
            unfold wasI
            rw [c3]
            split <;> rfl
          · have c3 := of_decide_eq_false c2
            simp only [if_neg c3, List.append_nil]
            exact e _ _ hq
        | out m =>
          rw [hw] at hEz
          obtain ⟨dx2, h4⟩ := hEz
          have h4' := sB _ _ h4
          refine s_if ((et_and (et_B (e_isi (ev_var rfl) h4' T.i_Out T.k_Out_Put)) fun z => by cases z).is (b := false && true) rfl) (fun z => by cases z) fun _ => s_if (b := decide (m = n)) ((et_and (et_B (e_isi (ev_var rfl) h4' T.i_Out T.k_Out_Out)) fun _ => et_test (e_eq (e_fld (ev_var rfl) h4' T.cl_Out T.n_Out_number outFs_number) (ev_var rfl))).is (by rw [Bool.true_and, decide_eq_decide]; omega)) (fun c2 => ?_) fun c2 => s_nx fun H5 e => ⟨sB.trans e, _, rfl, ?_⟩
          · have c3 := of_decide_eq_true c2
            simp only [if_pos c3]
            exact ext 2 _ _ (fun H5 e => e_fld (ev_var rfl) (e _ _ h4') T.cl_Out T.n_Out_day outFs_day) (fun H5 e => ev_c) 2 rfl
          · have c3 := of_decide_eq_false c2
            simp only [if_neg c3, List.append_nil]
            exact e _ _ hq
        | issue c =>
          rw [hw] at hEz
          obtain ⟨dx2, sa, da, h4, _⟩ := hEz
          have h4' := sB _ _ h4
          refine s_if ((et_and (et_B (e_isi (ev_var rfl) h4' T.i_Issue T.k_Issue_Put)) fun z => by cases z).is (b := false && true) rfl) (fun z => by cases z) fun _ => s_if ((et_and (et_B (e_isi (ev_var rfl) h4' T.i_Issue T.k_Issue_Out)) fun z => by cases z).is (b := false && true) rfl) (fun z => by cases z) fun _ => s_nx fun H5 e => ⟨sB.trans e, _, rfl, ?_⟩
          simp only [List.append_nil]
          exact e _ _ hq
      · obtain ⟨v5, rfl, hq⟩ := q
        rw [List.take_of_length_le (by unfold lg; rw [List.length_map]; omega)] at hq
        exact ⟨_, rfl, hq⟩
      · obtain ⟨v5, rfl, hq⟩ := hM
        have hh : (LsEdit.historyFrom n [] (lg zs)).length ≤ 400 := by have := hl2 (lg zs).length; rwa [List.take_length] at this
        have hvp : RLst RI (pairsI (LsEdit.historyFrom n [] (lg zs))) (.ref p) H' := ⟨p, rfl, ints_iff.mpr hq⟩
        refine s_ret s' (e_cat (xs := [((LsEdit.historyFrom n [] (lg zs)).length : Int)]) (ys := pairsI (LsEdit.historyFrom n [] (lg zs))) (e_lst1 ((ev_op (e_lenRI (vR hvp (Same.refl _) rfl)) ev_c (rv_I (g := fun i j => V.int (i / j)) (C := CDiv) (j := 2) ⟨by decide, by decide⟩)).is (congrArg V.int (by rw [pairsI_len]; omega)))) (fun H5 e => vR hvp e rfl) (by rw [pairsI_len]; simp; omega))
theorem ok_tell_editions (T : Txt K mg A) (c_Logbook_editions : C8.Met P w K mg base 3 A.aLogbook "editions" (sp_Logbook_editions K A) []) (c_counted : C8.Cal P w K mg base 1 "counted" (sp_counted K A) []) (c_refusal : C8.Cal P w K mg base 2 "refusal" (sp_refusal K A) []) (c_sheet_of : C8.Cal P w K mg base 1 "sheet_of" (sp_sheet_of K A) []) {f : Addr} {fd : FuncData} (F : C8.Def K mg "tell_editions" s_tell_editions f fd) (bb : Binds K fd ["log", "numbers", "rows"] []) : C8.Cal P w K mg base 4 "tell_editions" (sp_tell_editions K A) [] := by
  refine C8.cal0 F bb .nil sc_tell_editions (fun vs H Q E h => ?_) (fun cdv Ar outer s H vs Q E hr h => ?_)
  · obtain ⟨R, ⟨g, ea, na, ra, zs, ns, bs, q, rfl, _⟩, _⟩ := h
    rfl
  · obtain ⟨R, ⟨g, ea, na, ra, zs, ns, bs, q, rfl, hL, gd, hn, hb, l1, l2, hq, rfl⟩, k⟩ := h
    obtain ⟨b, rfl⟩ : ∃ d, bs = [d] := len1 l2
    cases hq
    rw [t_editions] at k
    refine ⟨_, (pss_cons (ps_set (i := 3) sc_tell_editions.nd rfl (Or.inl rfl) (C8.pe_c c_refusal hr (by decide) rfl (pa_cons pe_bl (pa_cons (pv 2) pa_nil)))) (pss_cons (ps_if (pt_cmpR op_gt (pe_callB call_len_seq (by rfl) T.len (by decide +kernel) (pa_cons (pv 3) pa_nil)) pe_int (nomark _)) (pss_one (ps_ret (pv 3))) pss_nil) (pss_one (ps_ret (C8.pe_c c_counted hr (by decide) rfl (pa_cons (pe_lc (own := [("entry", 4)]) (tt := tYes) rfl sc_tell_editions.nd (pi_list (C8.pe_mt c_Logbook_editions hr (by decide) (pv 0) (pa_cons (C8.pe_c c_sheet_of hr (by decide) rfl (pa_cons (pe_ix ix_list (pv 2) pe_int (fun _ _ => rfl)) pa_nil)) (pa_cons (C8.pe_gc rfl T.g_LAST_DAY) pa_nil)))) (blkOk_by (own := [("entry", 4)]) (N := N_tell_editions) (sc := C8.fnScope s_tell_editions) (by decide +kernel)) (fun _ _ _ _ _ => (pg_name (i := 4) sc_tell_editions.nd rfl (Or.inl rfl))) (fun _ _ _ _ _ => pts_nil) (fun _ _ _ _ _ => (pe_fldK (K := K) rfl (pv 4) rfl))) pa_nil)))))), body (s_set (e_refusal (b := !false) ev_c (ev_var rfl) hb) fun v H2 s2 hv => ?_) k⟩
    refine s_refused s2 hv rfl fun s hs hbad hl => s_ret s2 ?_
    have el : (LsEdit.editions (lg zs) s).length ≤ 400 := Nat.le_trans eds_len gd.len
    have e0 : LsRows.told (LsAns.tells ((LsEdit.editions (lg zs) s).length : Int) ((LsEdit.editions (lg zs) s).map fun (e : LsEdit.Edition) => (e.day : Int))) = (((LsEdit.editions (lg zs) s).map fun (e : LsEdit.Edition) => (e.day : Int)).length : Int) :: ((LsEdit.editions (lg zs) s).map fun (e : LsEdit.Edition) => (e.day : Int)) := by
      rw [told_eq, List.length_map]; simp [LsAns.tells, nb]
    rw [e0]
    refine e_counted ((e_lcFN (F := REd A s) (G := fun x => RI x.day) (L := LsEdit.editions (lg zs) s) (fun _ => true) ((e_editions (d := 99999) (ev_var rfl) (vSheet (vRow0 (ev_var rfl) (hb.mono s2)) hl hs) ev_c (hL.mono s2) gd).imp fun v H3 _ h => by rw [upTo_all gd] at h; exact h) (by omega) (fun _ => rfl) (fun _ _ _ _ _ _ => et_yes) fun x v H' hx hm s3 _ => e_dayR T (vR hx (Same.refl _) rfl)).imp fun v H3 _ h => ?_) (by rw [List.length_map]; omega)
    rw [filter_true] at h
    obtain ⟨p, rfl, us, g1, g2⟩ := h
    refine ⟨p, rfl, ints_iff.mpr ?_⟩
    rw [g1, vals_map (g := fun x : LsEdit.Edition => V.int x.day) g2, List.map_map]; rfl
theorem t_sheets (l : Log) (n s : Nat) : EditSpec.told l (.sheets n s) = (if EditSpec.isNumber n = false ∨ LsRefs.SERIES < s then LsAns.says (-1) else (match LsLand.find (LsEdit.landOf l) n with
    | none => LsAns.says (-4)
    | some f => if EditSpec.SHEETS < ((LsRefs.over s ((LsBook.boxOf f.shape).1.toNat - 1) ((LsBook.boxOf f.shape).2.1.toNat - 1) (min 999999 (LsBook.boxOf f.shape).2.2.1.toNat) (min 999999 (LsBook.boxOf f.shape).2.2.2.toNat)).filter fun (c : Sheet) => LsEdit.stands c f).length then LsAns.says (-7) else EditSpec.codesAns ((LsRefs.over s ((LsBook.boxOf f.shape).1.toNat - 1) ((LsBook.boxOf f.shape).2.1.toNat - 1) (min 999999 (LsBook.boxOf f.shape).2.2.1.toNat) (min 999999 (LsBook.boxOf f.shape).2.2.2.toNat)).filter fun (c : Sheet) => LsEdit.stands c f))) := rfl
theorem ok_tell_sheets (T : Txt K mg A) (c_Logbook_land_of : C8.Met P w K mg base 2 A.aLogbook "land_of" (sp_Logbook_land_of K A) []) (c_codes_told : C8.Cal P w K mg base 2 "codes_told" (sp_codes_told K A) []) (c_is_number : C8.Cal P w K mg base 1 "is_number" (sp_is_number K A) []) (c_sheets_of : C8.Cal P w K mg base 5 "sheets_of" (sp_sheets_of K A) []) {f : Addr} {fd : FuncData} (F : C8.Def K mg "tell_sheets" s_tell_sheets f fd) (bb : Binds K fd ["log", "numbers", "rows"] []) : C8.Cal P w K mg base 6 "tell_sheets" (sp_tell_sheets K A) [] := by
  refine C8.cal0 F bb .nil sc_tell_sheets (fun vs H Q E h => ?_) (fun cdv Ar outer s H vs Q E hr h => ?_)
  · obtain ⟨R, ⟨g, ea, na, ra, zs, ns, bs, q, rfl, _⟩, _⟩ := h
    rfl
  · obtain ⟨R, ⟨g, ea, na, ra, zs, ns, bs, q, rfl, hL, gd, hn, hb, l1, l2, hq, rfl⟩, k⟩ := h
    obtain ⟨n, ser, rfl⟩ : ∃ d n, ns = [d, n] := len2 l1
    cases hq
    rw [t_sheets] at k
    have gu := gd.land
    refine ⟨_, (pss_cons (ps_asg (pv 1) (pg_unl rfl (pgs_cons (pg_name (i := 5) sc_tell_sheets.nd rfl (Or.inl rfl)) (pgs_cons (pg_name (i := 6) sc_tell_sheets.nd rfl (Or.inl rfl)) pgs_nil)))) (pss_cons (ps_if (PW.pt (pw_or (pt_not (pt_val (C8.pe_c c_is_number hr (by decide) rfl (pa_cons (pv 5) pa_nil)))) (pw_or1 (pt_cmpR op_gt (pv 6) (C8.pe_gc rfl T.g_LAST_SERIES) (nomark _))))) (pss_one (ps_ret (pe_lst (pa_cons (C8.pe_gc rfl T.g_OUT_OF_BOUNDS) pa_nil)))) pss_nil) (pss_cons (ps_set (i := 3) sc_tell_sheets.nd rfl (Or.inl rfl) (C8.pe_mt c_Logbook_land_of hr (by decide) (pv 0) (pa_cons (C8.pe_gc rfl T.g_LAST_DAY) pa_nil))) (pss_cons (ps_if (pt_cmp (pc_dnotin (hu_of hr) (pv 5) (pv 3))) (pss_one (ps_ret (pe_lst (pa_cons (C8.pe_gc rfl T.g_NO_SUCH) pa_nil)))) pss_nil) (pss_cons (ps_set (i := 4) sc_tell_sheets.nd rfl (Or.inl rfl) (C8.pe_c c_sheets_of hr (by decide) rfl (pa_cons (pe_dget (hu_of hr) (pv 3) (pv 5) (fun _ _ => rfl)) (pa_cons (pv 6) pa_nil)))) (pss_cons (ps_if (pt_cmpR op_gt (pe_callB call_len_seq (by rfl) T.len (by decide +kernel) (pa_cons (pv 4) pa_nil)) (C8.pe_gc rfl T.g_MOST_SHEETS) (nomark _)) (pss_one (ps_ret (pe_lst (pa_cons (C8.pe_gc rfl T.g_FULL) pa_nil)))) pss_nil) (pss_one (ps_ret (C8.pe_c c_codes_told hr (by decide) rfl (pa_cons (pv 4) pa_nil)))))))))), body (s_unl2 (ev_var rfl) hn fun H1 s1 => ?_) k⟩
    refine s_when (b := (!EditSpec.isNumber n) || decide (6 < ser)) ((et_or (et_not (et_B (e_isNumber (ev_var rfl)))) fun _ => et_test (e_gt (ev_var rfl) ev_c)).is (by rw [isNum_eq]; congr 1; exact decide_eq_decide.mpr (show (6 : Int) < (ser : Int) ↔ 6 < ser by omega))) (fun c1 => s_ret s1 ?_) fun c1 => ?_
    · have cc : EditSpec.isNumber n = false ∨ LsRefs.SERIES < ser := by unfold LsRefs.SERIES; simpa using c1
      rw [if_pos cc]; exact e_retI ev_c
    · have cc : EditSpec.isNumber n = true ∧ ser ≤ 6 := by simpa using c1
      have cn : ¬ (EditSpec.isNumber n = false ∨ LsRefs.SERIES < ser) := by unfold LsRefs.SERIES; rw [cc.1]; simp; omega
      rw [if_neg cn]
      refine s_set (e_landOf (d := 99999) (ev_var rfl) ev_c (hL.mono s1) gd) fun v H2 s2 hv => ?_
      rw [upTo_all gd] at hv
      have s12 := s1.trans s2
      refine s_when (et_B (e_dnotin (n := n) (ev_var rfl) (vR hv (Same.refl _) rfl) gu.ris)) (fun c2 => s_ret s12 ?_) fun c2 => ?_
      · have f1 : LsLand.find (LsEdit.landOf (lg zs)) n = none := by simpa using c2
        rw [f1]; exact e_retI ev_c
      · obtain ⟨f, hf⟩ := Option.isSome_iff_exists.mp (show (LsLand.find (LsEdit.landOf (lg zs)) n).isSome = true by simpa using c2)
        rw [hf]
        have gf := gu.all f ((La.find_some gu.ris).mp hf).1
        have key := Ge.sheets_eq gf.sh gf.pb cc.2
        simp only at key
        refine s_set (Ra := RLst RSh (Ge.sheetsFrom f ser [[]])) (e_call (ea_consG (R := RFt A f) (e_dget (n := n) (vR hv (Same.refl _) rfl) (ev_var rfl) gu.ris hf) fun H3 s3 => ea_v1 rfl) fun vs H3 e hv => ?_) fun v H3 s3 hsv => ?_
        · obtain ⟨v, r, rfl, ⟨fa, rfl, hfa⟩, hr⟩ := hv
          cases hr
          exact ⟨fa, f, ser, rfl, hfa, gf, cc.2, rfl⟩
        · have s13 := s12.trans s3
          show Run _ _ _ _ (RLst RI (LsRows.told (if EditSpec.SHEETS < _ then LsAns.says (-7) else EditSpec.codesAns _))) _
          generalize ((LsRefs.over ser ((LsBook.boxOf f.shape).1.toNat - 1) ((LsBook.boxOf f.shape).2.1.toNat - 1) (min 999999 (LsBook.boxOf f.shape).2.2.1.toNat) (min 999999 (LsBook.boxOf f.shape).2.2.2.toNat)).filter fun (c : Sheet) => LsEdit.stands c f) = cs at key ⊢
          refine s_when (et_test (e_gt (e_lenL (vR hsv (Same.refl _) rfl)) ev_c)) (fun c3 => s_ret s13 ?_) fun c3 => s_ret s13 ?_
          · have := of_decide_eq_true c3
            have big : EditSpec.SHEETS < cs.length := by
              unfold EditSpec.SHEETS
              rcases key with k | k
              · exact k.2
              · rw [← k]; omega
            rw [if_pos big]; exact e_retI ev_c
          · have := of_decide_eq_false c3
            have eq : Ge.sheetsFrom f ser [[]] = cs := by
              rcases key with k | k
              · omega
              · exact k
            have small : ¬ EditSpec.SHEETS < cs.length := by unfold EditSpec.SHEETS; rw [← eq]; omega
            rw [if_neg small, told_codes, ← eq]
            refine e_call (ea_consG (vR hsv (Same.refl _) rfl) fun _ _ => ea_nil) fun vs H4 e hv => ?_
            obtain ⟨v, r, rfl, ⟨p, rfl, hp⟩, hr⟩ := hv
            cases hr
            exact ⟨p, _, rfl, hp, by omega, sheets_ok ser [[]] 0 (by omega) (by simp), rfl⟩
theorem s_refused2 {i : Nat} {v : V} {b e : Bytes} {f : Sheet → Sheet → LsAns.Ans} (s : Same B H) (hv : RLst RI (refP true [b, e]) v H) (hσ : σ[i]? = some (some v))
    (k : ∀ s t, LsRefs.readCode b = .ok s → LsRefs.readCode e = .ok t → b.length ≤ 32 → e.length ≤ 32 → Run u σ B H (RLst RI (LsRows.told (f s t))) N) :
    Run (tSeq (tIfS (tTest (tOp (rI0 fun i j => .bl (decide (j < i))) (tCB (fun xs H Q => ∃ p ys, xs = [.ref p] ∧ (SqL K H p ys ∨ SqT K H p ys) ∧ Q (.int ys.length) H) (tCons (tVar i) tNil)) (tC (.int 0)))) (tRet (tVar i)) tNext) u) σ B H (RLst RI (LsRows.told (if EditSpec.CODE < b.length ∨ EditSpec.CODE < e.length then LsAns.says (-2) else EditSpec.ofCode b false fun (s : Sheet) => EditSpec.ofCode e false fun (t : Sheet) => f s t))) N := by
  refine s_when (et_test (e_gt (e_lenRI (vR hv (Same.refl _) hσ)) ev_c)) (fun c1 => s_ret s ?_) fun c1 => ?_
  · rcases torn_cases b e f with ⟨h1, h2⟩ | ⟨h1, h2⟩
    · rw [h2]; exact vR hv (Same.refl _) hσ
    · have := of_decide_eq_true c1
      omega
  · rcases torn_cases b e f with ⟨h1, h2⟩ | ⟨h1, x, y, h3, h4, h5, h6, h7⟩
    · have := of_decide_eq_false c1
      omega
    · rw [h5]; exact k x y h3 h4 h6 h7
theorem ok_tell_torn (T : Txt K mg A) (c_Logbook_editions : C8.Met P w K mg base 3 A.aLogbook "editions" (sp_Logbook_editions K A) []) (c_changes : C8.Cal P w K mg base 2 "changes" (sp_changes K A) []) (c_counted : C8.Cal P w K mg base 1 "counted" (sp_counted K A) []) (c_refusal : C8.Cal P w K mg base 2 "refusal" (sp_refusal K A) []) (c_sheet_of : C8.Cal P w K mg base 1 "sheet_of" (sp_sheet_of K A) []) {f : Addr} {fd : FuncData} (F : C8.Def K mg "tell_torn" s_tell_torn f fd) (bb : Binds K fd ["log", "numbers", "rows"] []) : C8.Cal P w K mg base 4 "tell_torn" (sp_tell_torn K A) [] := by
  refine C8.cal0 F bb .nil sc_tell_torn (fun vs H Q E h => ?_) (fun cdv Ar outer s H vs Q E hr h => ?_)
  · obtain ⟨R, ⟨g, ea, na, ra, zs, ns, bs, q, rfl, _⟩, _⟩ := h
    rfl
  · obtain ⟨R, ⟨g, ea, na, ra, zs, ns, bs, q, rfl, hL, gd, hn, hb, l1, l2, hq, rfl⟩, k⟩ := h
    obtain ⟨b, b2, rfl⟩ : ∃ d e, bs = [d, e] := len2 l2
    cases hq
    rw [t_torn] at k
    refine ⟨_, (pss_cons (ps_set (i := 3) sc_tell_torn.nd rfl (Or.inl rfl) (C8.pe_c c_refusal hr (by decide) rfl (pa_cons pe_bl (pa_cons (pv 2) pa_nil)))) (pss_cons (ps_if (pt_cmpR op_gt (pe_callB call_len_seq (by rfl) T.len (by decide +kernel) (pa_cons (pv 3) pa_nil)) pe_int (nomark _)) (pss_one (ps_ret (pv 3))) pss_nil) (pss_cons (ps_set (i := 4) sc_tell_torn.nd rfl (Or.inl rfl) (C8.pe_mt c_Logbook_editions hr (by decide) (pv 0) (pa_cons (C8.pe_c c_sheet_of hr (by decide) rfl (pa_cons (pe_ix ix_list (pv 2) pe_int (fun _ _ => rfl)) pa_nil)) (pa_cons (C8.pe_gc rfl T.g_LAST_DAY) pa_nil)))) (pss_cons (ps_set (i := 5) sc_tell_torn.nd rfl (Or.inl rfl) (C8.pe_mt c_Logbook_editions hr (by decide) (pv 0) (pa_cons (C8.pe_c c_sheet_of hr (by decide) rfl (pa_cons (pe_ix ix_list (pv 2) pe_int (fun _ _ => rfl)) pa_nil)) (pa_cons (C8.pe_gc rfl T.g_LAST_DAY) pa_nil)))) (pss_cons (ps_if (PW.pt (pw_or (pt_cmpR op_eq (pe_callB call_len_seq (by rfl) T.len (by decide +kernel) (pa_cons (pv 4) pa_nil)) pe_int (nomark _)) (pw_or1 (pt_cmpR op_eq (pe_callB call_len_seq (by rfl) T.len (by decide +kernel) (pa_cons (pv 5) pa_nil)) pe_int (nomark _))))) (pss_one (ps_ret (pe_lst (pa_cons (C8.pe_gc rfl T.g_NO_SUCH) pa_nil)))) pss_nil) (pss_cons (ps_set (i := 6) sc_tell_torn.nd rfl (Or.inl rfl) (C8.pe_c c_changes hr (by decide) rfl (pa_cons (pe_fld (pe_ix ix_list (pv 4) (pe_op op_sub (pe_callB call_len_seq (by rfl) T.len (by decide +kernel) (pa_cons (pv 4) pa_nil)) pe_int) (fun _ _ => rfl)) rfl) (pa_cons (pe_fld (pe_ix ix_list (pv 5) (pe_op op_sub (pe_callB call_len_seq (by rfl) T.len (by decide +kernel) (pa_cons (pv 5) pa_nil)) pe_int) (fun _ _ => rfl)) rfl) pa_nil)))) (pss_one (ps_ret (C8.pe_c c_counted hr (by decide) rfl (pa_cons (pe_lc (own := [("number", 7), ("how", 8)]) rfl sc_tell_torn.nd (pi_list (pv 6)) (blkOk_by (own := [("number", 7), ("how", 8)]) (N := N_tell_torn) (sc := C8.fnScope s_tell_torn) (by decide +kernel)) (fun _ _ _ _ _ => (pg_tupK (K := K) (n := 2) rfl rfl (pgs_cons (pg_name (i := 7) sc_tell_torn.nd rfl (Or.inl rfl)) (pgs_cons (pg_name (i := 8) sc_tell_torn.nd rfl (Or.inl rfl)) pgs_nil)))) (fun _ _ _ _ _ => (pts_one (pt_cmpR op_eq (pv 8) (C8.pe_gc rfl T.g_ANOTHER) (nomark _)))) (fun _ _ _ _ _ => (pv 7))) pa_nil)))))))))), body (s_set (e_refusal (b := true) ev_c (ev_var rfl) hb) fun v H2 s2 hv => ?_) k⟩
    refine s_refused2 (f := fun s t => match (LsEdit.editions (lg zs) s).getLast?, (LsEdit.editions (lg zs) t).getLast? with
      | some u, some v => LsAns.tells ((LsEdit.torn u.land v.land).length : Int) (LsAns.ints (LsEdit.torn u.land v.land))
      | _, _ => LsAns.says (-4)) s2 hv rfl fun s t hs ht hl hl2 => ?_
    refine s_set ((e_editions (d := 99999) (ev_var rfl) (vSheet (vRow0 (ev_var rfl) (hb.mono s2)) hl hs) ev_c (hL.mono s2) gd).imp fun v H3 _ h => by rw [upTo_all gd] at h; exact h) fun v H3 s3 hv3 => ?_
    have s13 := s2.trans s3
    refine s_set ((e_editions (d := 99999) (ev_var rfl) (vSheet (vRow1 (ev_var rfl) (hb.mono s13)) hl2 ht) ev_c (hL.mono s13) gd).imp fun v H3 _ h => by rw [upTo_all gd] at h; exact h) fun v H4 s4 hv4 => ?_
    have s14 := s13.trans s4
    refine s_when (et_or (et_test (e_eq (e_lenL (vR hv3 s4 rfl)) ev_c)) fun _ => et_test (e_eq (e_lenL (vR hv4 (Same.refl _) rfl)) ev_c)) (fun c1 => s_ret s14 ?_) fun c1 => ?_
    · have e0 : (match (LsEdit.editions (lg zs) s).getLast?, (LsEdit.editions (lg zs) t).getLast? with
          | some u, some v => LsAns.tells ((LsEdit.torn u.land v.land).length : Int) (LsAns.ints (LsEdit.torn u.land v.land))
          | _, _ => LsAns.says (-4)) = LsAns.says (-4) := by
        rw [Bool.or_eq_true, decide_eq_true_eq, decide_eq_true_eq] at c1
        rcases c1 with c1 | c1
        · have e : LsEdit.editions (lg zs) s = [] := List.eq_nil_of_length_eq_zero (by omega)
          rw [e]; rfl
        · have e : LsEdit.editions (lg zs) t = [] := List.eq_nil_of_length_eq_zero (by omega)
          rw [e]
          cases (LsEdit.editions (lg zs) s).getLast? <;> rfl
      show EvP _ _ _ (RLst RI (LsRows.told (match (LsEdit.editions (lg zs) s).getLast?, (LsEdit.editions (lg zs) t).getLast? with
          | some u, some v => LsAns.tells ((LsEdit.torn u.land v.land).length : Int) (LsAns.ints (LsEdit.torn u.land v.land))
          | _, _ => LsAns.says (-4))))
      rw [e0]; exact e_retI ev_c
    · rw [Bool.or_eq_false_iff, decide_eq_false_iff_not, decide_eq_false_iff_not] at c1
      have n1 : LsEdit.editions (lg zs) s ≠ [] := fun z => c1.1 (by rw [z]; rfl)
      have n2 : LsEdit.editions (lg zs) t ≠ [] := fun z => c1.2 (by rw [z]; rfl)
      obtain ⟨x, hx⟩ : ∃ x, (LsEdit.editions (lg zs) s).getLast? = some x := ⟨_, List.getLast?_eq_some_getLast n1⟩
      obtain ⟨y, hy⟩ : ∃ x, (LsEdit.editions (lg zs) t).getLast? = some x := ⟨_, List.getLast?_eq_some_getLast n2⟩
      have gx := gd.ed (List.mem_of_getLast? hx)
      have gy := gd.ed (List.mem_of_getLast? hy)
      have cl := changed_len gx.ris gy.ris
      have := gx.len
      have := gy.len
      show Run _ _ _ _ (RLst RI (LsRows.told (match (LsEdit.editions (lg zs) s).getLast?, (LsEdit.editions (lg zs) t).getLast? with
          | some u, some v => LsAns.tells ((LsEdit.torn u.land v.land).length : Int) (LsAns.ints (LsEdit.torn u.land v.land))
          | _, _ => LsAns.says (-4)))) _
      rw [hx, hy]
      have tq := La.torn_eq gx.ris gy.ris
      have e0 : LsRows.told (LsAns.tells ((LsEdit.torn x.land y.land).length : Int) (LsAns.ints (LsEdit.torn x.land y.land))) = ((LsAns.ints (LsEdit.torn x.land y.land)).length : Int) :: LsAns.ints (LsEdit.torn x.land y.land) := by
        rw [told_eq]; simp [LsAns.tells, nb, LsAns.ints]
      show Run _ _ _ _ (RLst RI (LsRows.told (LsAns.tells ((LsEdit.torn x.land y.land).length : Int) (LsAns.ints (LsEdit.torn x.land y.land))))) _
      rw [e0]
      refine s_set (e_changes (e_featR T (e_ixLast (vR hv3 s4 rfl) hx)) (fun H5 s5 => e_featR T (e_ixLast (vR hv4 s5 rfl) hy)) gx.ris gy.ris (by omega) (by omega)) fun v H5 s5 hcv => s_ret (s14.trans s5) ?_
      refine e_counted ((e_lcF2 (F := RCh) (G := fun x => RI x.1) (L := LsEdit.changed x.land y.land) (fun x => decide (x.2 = 2)) (vR hcv (Same.refl _) rfl) (by omega) (fun _ _ => rfl) fun z v H6 hz hm s6 => ?_).imp fun v H6 _ h => ?_) ?_
      · obtain ⟨r, rfl, hr⟩ := hz
        refine ⟨r, _, _, rfl, hr, fun H' s' => ⟨(et_test (e_eq (ev_var rfl) ev_c)).is (by rw [decide_eq_decide]; omega), fun _ => ev_var rfl⟩⟩
      · obtain ⟨p, rfl, us, g1, g2⟩ := h
        refine ⟨p, rfl, ints_iff.mpr ?_⟩
        rw [g1, vals_map (g := fun x : Nat × Nat => V.int x.1) g2, tq]
        unfold LsAns.ints
        rw [List.map_map, List.map_map]; rfl
      · unfold LsAns.ints
        rw [List.length_map, tq, List.length_map]
        have := List.length_filter_le (fun x : Nat × Nat => decide (x.2 = 2)) (LsEdit.changed x.land y.land)
        omega
theorem ok_tell_last (T : Txt K mg A) (c_Logbook_last_day : C8.Met P w K mg base 1 A.aLogbook "last_day" (sp_Logbook_last_day K A) []) {f : Addr} {fd : FuncData} (F : C8.Def K mg "tell_last" s_tell_last f fd) (bb : Binds K fd ["log", "numbers", "rows"] []) : C8.Cal P w K mg base 2 "tell_last" (sp_tell_last K A) [] := by
  refine C8.cal0 F bb .nil sc_tell_last (fun vs H Q E h => ?_) (fun cdv Ar outer s H vs Q E hr h => ?_)
  · obtain ⟨R, ⟨g, ea, na, ra, zs, ns, bs, q, rfl, _⟩, _⟩ := h
    rfl
  · obtain ⟨R, ⟨g, ea, na, ra, zs, ns, bs, q, rfl, hL, gd, hn, hb, l1, l2, hq, rfl⟩, k⟩ := h
    cases hq
    rw [t_last] at k
    obtain ⟨dx, h1, h2, h3⟩ := id hL
    refine ⟨_, (pss_one (ps_ret (pe_lst (pa_cons pe_int (pa_cons (C8.pe_mt0 c_Logbook_last_day hr (by decide) (pv 0)) (pa_cons (pe_callB call_len_seq (by rfl) T.len (by decide +kernel) (pa_cons (pe_fld (pv 0) rfl) pa_nil)) pa_nil)))))), body (s_ret (Same.refl _) ?_) k⟩
    have e0 : LsRows.told (LsAns.tells 0 (LsAns.ints [LsEdit.lastDay (lg zs), (lg zs).length])) = [0, (LsEdit.lastDay (lg zs) : Int), (zs.length : Int)] := by
      rw [told_eq]; simp [LsAns.tells, nb, LsAns.ints, lg]
    rw [e0]
    refine e_lstI (ns := [0, (LsEdit.lastDay (lg zs) : Int), (zs.length : Int)]) (ea_cons ev_c (ea_cons (e_meth (ev_var rfl) h1 (logFs_none (by decide +kernel)) ea_nil fun vs H2 e hv => ?_) (ea_cons ((e_lenS (e_entries T (ev_var rfl) hL) h2).is (by rw [List.length_map])) ea_nil))) (by show 3 ≤ 1000000; decide)
    cases hv
    exact ⟨g, ea, zs, rfl, hL.mono e, rfl⟩
end
end Wk
end
/-! ### WTell4 -/
section
set_option Elab.async false
set_option linter.all false
set_option maxRecDepth 100000
set_option maxHeartbeats 2000000
namespace Wk
open PySem PySem.Spec PyProof.Rows L2
open LsGeo (Pt)
open LsRefs (Sheet)
open LsText (Bytes)
open LsLand (Feature Land)
open LsEdit (Log What)
def shI (c : Sheet) : List Int := c.map fun (d : Nat) => (d : Int)
theorem lex_before : ∀ c d : Sheet, HT.lexLt (shI c) (shI d) = LsEdit.before c d
  | [], [] => rfl
  | [], _ :: _ => rfl
  | _ :: _, [] => rfl
  | a :: r, b :: s => by
    show (if (a : Int) = b then HT.lexLt (shI r) (shI s) else decide ((a : Int) < b)) = (decide (a < b) || (a == b && LsEdit.before r s))
    rw [lex_before r s]
    by_cases e : a = b
    · subst e; simp
    · rw [if_neg (by omega)]
      rw [show decide ((a : Int) < b) = decide (a < b) from decide_eq_decide.mpr (by omega), show (a == b) = false from by simpa using e]
      simp
theorem insert_len (c : Sheet) : ∀ l : List Sheet, (LsEdit.insert c l).length ≤ l.length + 1
  | [] => by simp [LsEdit.insert]
  | d :: r => by
    have := insert_len c r
    unfold LsEdit.insert
    split
    · simp
    · split
      · simp
      · simp; omega
theorem issued_len : ∀ (l : Log) (s : List Sheet), (l.foldl Is.stp s).length ≤ s.length + l.length
  | [], s => by simp
  | e :: r, s => by
    have a := issued_len r (Is.stp s e)
    have b : (Is.stp s e).length ≤ s.length + 1 := by
      unfold Is.stp
      split
      · exact insert_len _ _
      · omega
    rw [List.foldl_cons, List.length_cons]; omega
theorem issued_ok2 {l : Log} (g : GoodL l) : ∀ c ∈ LsEdit.issued l, okSh c := fun c hc => by
  obtain ⟨e, he, hw⟩ := ((Is.issued_ok l).2 c).mp hc
  obtain ⟨i, hi⟩ := List.mem_iff_getElem?.mp he
  have := g.ok i e hi
  unfold okE at this
  rw [hw] at this
  exact this
theorem paired_last {α β : Type} {F : α → β → Prop} {as : List α} {bs : List β} {a : α} (h : Paired F as bs) (e : as.getLast? = some a) : ∃ b, bs.getLast? = some b ∧ F a b := by
  have l := h.len
  rw [List.getLast?_eq_getElem?] at e
  obtain ⟨b, h1, h2⟩ := h.get e
  exact ⟨b, by rw [List.getLast?_eq_getElem?, ← l]; exact h1, h2⟩
section
variable {P : Program} {w : World} {K : PySem.W.Frag} {mg : Str → Option Value} {base : Heap} {A : Ad} {σ : L2.St} {H B : Hp} {ta tb te to td ty tv tl : TE} {u : TS} {R Ra : RR} {N : L2.St → Hp → Prop} {L : Land} {z : En} {c : Sheet} {x : LsEdit.Edition}
theorem s_forMF {α : Type} {F : α → RR} {p : Addr} {L : List α} {acc0 : List V} {j : Nat} {tb : TS} (s : Same B H) (hp : B p = none) (hacc : H p = some (.lst acc0)) (h : EvP tl σ H (fun v H1 => RLst F L v H1 ∧ v ≠ .ref p)) (mf : ∀ x v H2, H2 p = some (.lst acc0) → F x v H2 → F x v (rm H2 p)) (Pv : Nat → L2.St → Hp → Prop) (h0 : ∀ H1, Same H H1 → Pv 0 σ H1)
    (hs : ∀ B' i x v σ' H', L[i]? = some x → F x v B' → Same B B' → Same (rm H p) B' → B' p = none → Same B' H' → Pv i σ' H' → Run tb (σ'.set j (some v)) B' H' R (Pv (i + 1)))
    (hd : ∀ σ' H', Same B H' → Same (rm H p) H' → Pv L.length σ' H' → N σ' H') : Run (tFor (iList K tl) (gName j) tb) σ B H R N := fun H1 e D q n =>
  h H1 e _ fun v H2 e2 hv => by
    obtain ⟨⟨a, rfl, vs, ha, hpr⟩, hne⟩ := hv
    have ap : a ≠ p := fun z => hne (by rw [z])
    have sB := rm_of ((s.trans e).trans e2) hp
    have hacc2 := (e.trans e2) _ _ hacc
    have sH : Same (rm H p) (rm H2 p) := fun b u hb => by
      unfold rm at hb ⊢
      split at hb
      · cases hb
      · rename_i c
        rw [if_neg c]; exact (e.trans e2) _ _ hb
    refine ⟨a, rfl, ⟨vs, SqL.of ha⟩, for_list (K := K) (a := a) (xs := vs) (fun i σ' H' => Same (rm H2 p) H' ∧ Pv i σ' H') ⟨rm_same, h0 H2 (e.trans e2)⟩
      (fun i σ' H' hi pp => SqL.of (pp.1 _ _ (rm_ne ha ap))) (fun i x σ' H' hi pp => ?_) fun σ' H' pp => n σ' H' (sB.trans pp.1) (hd σ' H' (sB.trans pp.1) (sH.trans pp.1) (by rw [← hpr.len]; exact pp.2))⟩
    obtain ⟨y, hy, f⟩ := hpr.get hi
    exact hs (rm H2 p) i y x σ' H' hy (mf y x H2 hacc2 f) sB sH rm_at pp.1 pp.2 H' (Same.refl _) _ (fun v H3 e3 hv => q v H3 (sB.trans e3) hv) fun σ2 H3 e3 hn => ⟨e3, hn⟩
theorem lat_mem {zs : List En} : (∃ z, lastZ zs c = some z) ↔ ∃ e ∈ lg zs, e.what = .issue c := by
  unfold lastZ
  constructor
  · rintro ⟨z, h⟩
    obtain ⟨h1, h2⟩ := List.mem_filter.mp (List.mem_of_getLast? h)
    exact ⟨z.1, List.mem_map.mpr ⟨z, h1, rfl⟩, of_decide_eq_true h2⟩
  · rintro ⟨e, he, hw⟩
    obtain ⟨z, hz, rfl⟩ := List.mem_map.mp he
    have ne : zs.filter (fun z => decide (z.1.what = .issue c)) ≠ [] := List.ne_nil_of_mem (List.mem_filter.mpr ⟨hz, decide_eq_true hw⟩)
    exact ⟨_, List.getLast?_eq_some_getLast ne⟩
/-- sorted(latest) -/
theorem e_sortedT {zs : List En} (h : EvP te σ H (RLat zs)) : EvP (tCB rSortedDT (tCons te tNil)) σ H (fun v H1 => RLst RSh (LsEdit.issued (lg zs)) v H1 ∧ ∃ p, v = .ref p ∧ H p = none) := fun H1 e Q q =>
  h H1 e _ fun x H2 e2 h2 => by
    obtain ⟨a, qs, rfl, h3, nd, hm⟩ := h2
    refine ⟨a, qs.map kvT, qs.map fun q => shI q.1, rfl, h3, ?_, fun ts cs' p hperm hs hpr hp => q _ _ (e2.trans (Same.new hp)) ⟨⟨p, rfl, ts.map V.ref, upd_same, ?_⟩, p, rfl, (e.trans e2).free hp⟩⟩
    · rw [List.map_map, List.map_map]
      refine List.map_congr_left fun q _ => ?_
      show shK q.1 = (shI q.1).map Sum.inl
      unfold shI shK; rw [List.map_map]; rfl
    · have inv : ∀ c : Sheet, (shI c).map Int.toNat = c := fun c => by
        unfold shI; rw [List.map_map]
        exact (List.map_congr_left fun x _ => Int.toNat_natCast x).trans (List.map_id _)
      have p2 := hperm.map (fun c : List Int => c.map Int.toNat)
      have e3 : (qs.map fun q => shI q.1).map (fun c : List Int => c.map Int.toNat) = qs.map Prod.fst := by
        rw [List.map_map]
        exact List.map_congr_left fun q _ => inv q.1
      rw [e3] at p2
      have back : (cs'.map fun c : List Int => c.map Int.toNat).map shI = cs' := by
        rw [List.map_map]
        refine (List.map_congr_left fun c hc => ?_).trans (List.map_id _)
        obtain ⟨q, hq, rfl⟩ := List.mem_map.mp (hperm.mem_iff.mp hc)
        show shI ((shI q.1).map Int.toNat) = shI q.1
        rw [inv]
      generalize hL' : (cs'.map fun c : List Int => c.map Int.toNat) = L' at p2 back
      subst back
      have nd' : L'.Nodup := p2.nodup_iff.mpr nd
      have srt : L'.Pairwise fun c d => LsEdit.before c d = true := by
        have hs' := List.pairwise_map.mp hs
        refine (hs'.and nd').imp fun {c d} ⟨h1, h2⟩ => ?_
        by_cases k : LsEdit.before c d = true
        · exact k
        · have := Is.before_tri c d h2 (by simpa using k)
          rw [lex_before, this] at h1; cases h1
      have eq : L' = LsEdit.issued (lg zs) := by
        refine Is.sorted_uniq srt (Is.issued_ok _).1 fun c => ?_
        rw [(Is.issued_ok _).2, ← lat_mem, p2.mem_iff, List.mem_map]
        constructor
        · rintro ⟨⟨c', a⟩, hq, rfl⟩
          obtain ⟨z, hz, _⟩ := (hm c' a).mp hq
          exact ⟨z, hz⟩
        · rintro ⟨z, hz⟩
          exact ⟨(c, z.2), (hm c z.2).mpr ⟨z, hz, rfl⟩, rfl⟩
      rw [← eq]
      refine Paired.mapL ?_
      have conv : ∀ {ts : List Addr} {l : List Sheet}, Paired (fun t c => H2 t = some (.tup (c.map V.int))) ts (l.map shI) → Paired (fun (t : Addr) c => RSh c (.ref t) (upd H2 p (.lst (List.map V.ref ts)))) ts l := by
        intro ts l h
        generalize List.map V.ref ts = W
        induction l generalizing ts with
        | nil => cases h; exact .nil
        | cons a r ih =>
          cases h with
          | cons h1 h2 =>
            refine .cons ⟨_, rfl, ?_⟩ (ih h2)
            have h1' : H2 _ = some (.tup ((shI a).map V.int)) := h1
            have ee : (shI a).map V.int = a.map fun (d : Nat) => V.int d := by unfold shI; rw [List.map_map]; rfl
            show upd H2 p _ _ = _
            rw [upd_ne (ne_of_none h1' hp), h1', ee]
      exact conv hpr
theorem e_latGet {zs : List En} {v : V} {i j : Nat} {sa : Addr} {d : Nat} (gd : GoodL (lg zs)) (hE : Ents A B [] zs) (sB : Same B H) (hσ : σ[i]? = some (some v)) (hv : RLat (upz zs d) v H) (hj : σ[j]? = some (some (.ref sa))) (hsa : ShAt H sa c) (hc : LsEdit.latest (lg zs) c d = some x) : EvP (tDGet (tVar i) (tVar j)) σ H (REd A c x) := fun H1 e Q q => by
  obtain ⟨la, qs, rfl, h1, nd, hm⟩ := hv
  have hEu := upz_ents gd (d := d) hE
  have hp := ents_eds (c := c) hEu
  unfold LsEdit.latest at hc
  rw [← lg_upz] at hc
  have hc : (LsEdit.editionsFrom c [] (lg (upz zs d))).getLast? = some x := hc
  have ne : (upz zs d).filter (fun z => decide (z.1.what = .issue c)) ≠ [] := fun z => by
    rw [z] at hp
    cases h : LsEdit.editionsFrom c [] (lg (upz zs d)) with
    | nil => rw [h] at hc; cases hc
    | cons a r => rw [h] at hp; cases hp
  obtain ⟨z, hz⟩ : ∃ z, lastZ (upz zs d) c = some z := ⟨_, List.getLast?_eq_some_getLast ne⟩
  obtain ⟨y, hy, hi⟩ := paired_last hp hz
  rw [hc] at hy; cases hy
  have hin := (hm c z.2).mpr ⟨z, hz, rfl⟩
  refine ⟨.ref la, hσ, .ref sa, hj, la, .ref z.2, rfl, ?_, q _ H1 (Same.refl _) ⟨z.2, rfl, (IssAt.mono sB hi).mono e⟩⟩
  rw [← valT_in nd hin]
  exact DGet.t (e _ _ h1) (by rw [shK_V]; exact e _ _ hsa)
theorem ok_tell_olds (T : Txt K mg A) (c_Logbook_land_of : C8.Met P w K mg base 2 A.aLogbook "land_of" (sp_Logbook_land_of K A) []) (c_Logbook_latest_editions : C8.Met P w K mg base 3 A.aLogbook "latest_editions" (sp_Logbook_latest_editions K A) []) (c_changes : C8.Cal P w K mg base 2 "changes" (sp_changes K A) []) (c_codes_told : C8.Cal P w K mg base 2 "codes_told" (sp_codes_told K A) []) (c_features_on : C8.Cal P w K mg base 5 "features_on" (sp_features_on K A) []) (c_is_day : C8.Cal P w K mg base 1 "is_day" (sp_is_day K A) []) {f : Addr} {fd : FuncData} (F : C8.Def K mg "tell_olds" s_tell_olds f fd) (bb : Binds K fd ["log", "numbers", "rows"] []) : C8.Cal P w K mg base 6 "tell_olds" (sp_tell_olds K A) [] := by
  refine C8.cal0 F bb .nil sc_tell_olds (fun vs H Q E h => ?_) (fun cdv Ar outer s H vs Q E hr h => ?_)
  · obtain ⟨R, ⟨g, ea, na, ra, zs, ns, bs, q, rfl, _⟩, _⟩ := h
    rfl
  · obtain ⟨R, ⟨g, ea, na, ra, zs, ns, bs, q, rfl, hL, gd, hn, hb, l1, l2, hq, rfl⟩, k⟩ := h
    obtain ⟨d, rfl⟩ : ∃ d, ns = [d] := len1 l1
    cases hq
    rw [t_olds] at k
    have gu := gd.landUp d
    obtain ⟨dx, h1, h2, h3⟩ := id hL
    refine ⟨_, (pss_cons (ps_set (i := 3) sc_tell_olds.nd rfl (Or.inl rfl) (pe_ix ix_list (pv 1) pe_int (fun _ _ => rfl))) (pss_cons (ps_if (pt_not (pt_val (C8.pe_c c_is_day hr (by decide) rfl (pa_cons (pv 3) pa_nil)))) (pss_one (ps_ret (pe_lst (pa_cons (C8.pe_gc rfl T.g_OUT_OF_BOUNDS) pa_nil)))) pss_nil) (pss_cons (ps_set (i := 4) sc_tell_olds.nd rfl (Or.inl rfl) (C8.pe_mt c_Logbook_land_of hr (by decide) (pv 0) (pa_cons (pv 3) pa_nil))) (pss_cons (ps_set (i := 5) sc_tell_olds.nd rfl (Or.inl rfl) (C8.pe_mt c_Logbook_latest_editions hr (by decide) (pv 0) (pa_cons (pv 3) pa_nil))) (pss_cons (ps_set (i := 6) sc_tell_olds.nd rfl (Or.inl rfl) (pe_lst pa_nil)) (pss_cons (ps_for PassesOwn.never rfl (pi_list (pe_callB (cr_sortedDT rfl hr.units) (by rfl) T.sorted (by decide +kernel) (pa_cons (pv 5) pa_nil))) (pg_name (i := 7) sc_tell_olds.nd rfl (Or.inl rfl)) (pss_one (ps_if (pt_cmpR op_gt (pe_callB call_len_seq (by rfl) T.len (by decide +kernel) (pa_cons (C8.pe_c c_changes hr (by decide) rfl (pa_cons (pe_fld (pe_dget (hu_of hr) (pv 5) (pv 7) (fun _ _ => rfl)) rfl) (pa_cons (C8.pe_c c_features_on hr (by decide) rfl (pa_cons (pv 4) (pa_cons (pv 7) pa_nil))) pa_nil))) pa_nil)) pe_int (nomark _)) (pss_one (ps_expr (pe_bm PySem.F.plainAttrs_list PySem.F.slot_list_append PySem.F.type_list_append mt_append (pv 6) (pa_cons (pv 7) pa_nil)))) pss_nil))) (pss_one (ps_ret (C8.pe_c c_codes_told hr (by decide) rfl (pa_cons (pv 6) pa_nil)))))))))), body (s_set (e_num0 (ev_var rfl) hn) fun v H1 s1 hv => ?_) k⟩
    cases hv
    refine s_when (et_not (et_B (e_isDay (ev_var rfl)))) (fun c1 => s_ret s1 ?_) fun c1 => ?_
    · rw [isDay_eq, Bool.not_eq_true'] at c1
      rw [if_pos c1]; exact e_retI ev_c
    · rw [isDay_eq, Bool.not_eq_false'] at c1
      rw [if_neg (by rw [c1]; decide), told_codes]
      refine s_set (e_landOf (ev_var rfl) (ev_var rfl) (hL.mono s1) gd) fun v H2 s2 hlv => ?_
      have s12 := s1.trans s2
      refine s_set (Ra := RLat (upz zs d)) (e_meth (ev_var rfl) (s12 _ _ h1) (logFs_none (by decide +kernel)) (ea_v1 rfl) fun vs H3 e hv => ?_) fun v2 H3 s3 hlat => Run.base (s12.trans s3) ?_
      · cases hv
        exact ⟨g, ea, zs, d, rfl, (hL.mono s12).mono e, gd, rfl⟩
      have s13 := s12.trans s3
      refine s_newL (Same.refl _) fun p H4 hp0 s4 sB4 hB hp => ?_
      have gis := gd.upTo d
      have il : (LsEdit.issued (LsEdit.upTo (lg zs) d)).length ≤ 400 := by
        have := issued_len (LsEdit.upTo (lg zs) d) []
        have h2 := gis.len
        have e : LsEdit.issued (LsEdit.upTo (lg zs) d) = (LsEdit.upTo (lg zs) d).foldl Is.stp [] := rfl
        rw [e]; simp at this; omega
      refine s_seq (M := fun σ' H' => ∃ v7, σ' = [some (.ref g), some (.ref na), some (.ref ra), some (.int d), some v, some v2, some (.ref p), v7] ∧ LstAt RSh H' p ((LsEdit.issued (LsEdit.upTo (lg zs) d)).filter (LsEdit.isOld (lg zs) d))) (s_forMF (F := RSh) (L := LsEdit.issued (LsEdit.upTo (lg zs) d)) (p := p) s4 hB hp ((e_sortedT (vR hlat s4 rfl)).imp fun v H5 e hv => ?_) (fun c v H5 h5 hv => ?_)
        (fun i σ' H' => ∃ v7, σ' = [some (.ref g), some (.ref na), some (.ref ra), some (.int d), some v, some v2, some (.ref p), v7] ∧ LstAt RSh H' p (((LsEdit.issued (LsEdit.upTo (lg zs) d)).take i).filter (LsEdit.isOld (lg zs) d))) (fun H5 e => ⟨_, rfl, [], e _ _ hp, .nil⟩) (fun B' i c vv σ' H' hc hvv sB srm hBp s' q => ?_) fun σ' H' sB srm q => ?_) fun σ' H' s' hM => ?_
      · obtain ⟨hv, r, rfl, hr⟩ := hv
        rw [lg_upz] at hv
        exact ⟨hv, fun z => by cases z; rw [hp] at hr; cases hr⟩
      · obtain ⟨t, rfl, ht⟩ := hv
        have ht' : H5 t = some (.tup (c.map fun (d : Nat) => V.int d)) := ht
        exact ⟨t, rfl, rm_ne ht' (ne_of ht' h5 (by intro z; cases z))⟩
      · obtain ⟨v7, rfl, acc, hacc, hpr⟩ := q
        obtain ⟨sa, rfl, hsa⟩ := hvv
        have hsa := hsa.mono s'
        have s3' := sB.trans s'
        have hcm := List.mem_of_getElem? hc
        have okc := issued_ok2 gis c hcm
        obtain ⟨x, hx⟩ : ∃ x, LsEdit.latest (lg zs) c d = some x := by
          unfold LsEdit.latest
          obtain ⟨e, he, hw⟩ := ((Is.issued_ok _).2 c).mp hcm
          rw [← lg_upz] at he
          obtain ⟨z, hz⟩ := lat_mem.mpr ⟨e, he, hw⟩
          obtain ⟨y, hy, _⟩ := paired_last (ents_eds (c := c) (upz_ents gd (d := d) h3)) hz
          rw [← lg_upz]
          exact ⟨y, hy⟩
        have ge := (gd.upTo d).ed (List.mem_of_getLast? hx)
        have glen := ge.len
        have gon := gu.on c
        have golen := gon.len
        have tk : ((LsEdit.issued (LsEdit.upTo (lg zs) d)).take (i + 1)).filter (LsEdit.isOld (lg zs) d) = ((LsEdit.issued (LsEdit.upTo (lg zs) d)).take i).filter (LsEdit.isOld (lg zs) d) ++ (if LsEdit.isOld (lg zs) d c = true then [c] else []) := by
          obtain ⟨hi, e⟩ := List.getElem?_eq_some_iff.mp hc
          rw [← List.take_append_getElem hi, List.filter_append, e]
          congr 1
          by_cases k : LsEdit.isOld (lg zs) d c = true
          · rw [if_pos k]; simp [k]
          · rw [if_neg k]; simp [k]
        rw [tk]
        have lacc : acc.length < 16000000 := by
          have h1 := hpr.len
          have h2 := List.length_filter_le (LsEdit.isOld (lg zs) d) ((LsEdit.issued (LsEdit.upTo (lg zs) d)).take i)
          have h3 : ((LsEdit.issued (LsEdit.upTo (lg zs) d)).take i).length ≤ 400 := Nat.le_trans (List.length_take_le' _ _) il
          omega
        refine s_if (b := LsEdit.isOld (lg zs) d c) ((et_test (e_gt (e_lenL (e_changes (e_featR T (e_latGet gd h3 (s13.trans s3') rfl (Mono.mono s3' hlat) rfl hsa hx)) (fun H5 s5 => e_featOn (vR hlv (s3.trans (s3'.trans s5)) rfl) (fun H6 s6 => (ev_var rfl).imp fun v H7 e h => by cases h; exact ⟨sa, rfl, hsa.mono (s5.trans (s6.trans e))⟩) gu.ris (by have := gu.len; omega) gu.all okc.1) ge.ris gon.ris (by omega) (by omega))) ev_c)).is ?_) (fun c2 => s_appN (Ra := RSh c) s' hBp hacc (ev_var rfl) ((ev_var rfl).imp fun v H5 e h => by cases h; exact ⟨sa, rfl, hsa.mono e⟩) lacc fun v H5 s5 hv sb => ⟨_, rfl, acc ++ [v], upd_same, ?_⟩) fun c2 => s_nx fun H5 e => ⟨s'.trans e, _, rfl, acc, e _ _ hacc, ?_⟩
        · rw [old_len gd hx, decide_eq_decide]; omega
        · rw [if_pos c2]
          have hD := s5 _ _ hacc
          exact (hpr.monoP fun v x q => (inferInstance : Stab (RSh x)).stab hD ((inferInstance : Mono (RSh x)).mono s5 q)).app (.cons ((inferInstance : Stab (RSh c)).stab hD hv) .nil)
        · rw [if_neg (by rw [c2]; decide), List.append_nil]
          exact hpr.monoP fun v x q => (inferInstance : Mono (RSh x)).mono e q
      · obtain ⟨v7, rfl, hq⟩ := q
        rw [List.take_length] at hq
        exact ⟨_, rfl, hq⟩
      · obtain ⟨v7, rfl, hq⟩ := hM
        refine s_ret s' (e_callV (ea_v1 rfl) fun H5 e => ⟨p, _, rfl, hq.mono e, Nat.le_trans (List.length_filter_le _ _) (by omega), fun c hc => issued_ok2 gis c (List.mem_filter.mp hc).1, rfl⟩)
end
end Wk
end
/-! ### WDeed1 -/
section
set_option Elab.async false
set_option linter.all false
set_option maxRecDepth 100000
set_option maxHeartbeats 2000000
namespace Wk
open PySem PySem.Spec PyProof.Rows L2
open LsGeo (Pt)
open LsRefs (Sheet)
open LsText (Bytes)
open LsLand (Feature Land)
open LsEdit (Log What)
def natI (ns : List Nat) : List Int := ns.map fun (n : Nat) => (n : Int)
section
variable {P : Program} {w : World} {K : PySem.W.Frag} {mg : Str → Option Value} {base : Heap} {A : Ad} {σ : L2.St} {H B : Hp} {ta tb te to td ty tv tl : TE} {u : TS} {R Ra : RR} {N : L2.St → Hp → Prop} {L : Land} {z : En} {c : Sheet} {x : LsEdit.Edition}
def sp_is_name (K : PySem.W.Frag) (A : Ad) : Sp := pure fun vs H R => ∃ (a : Addr) (b : Bytes), vs = [.ref a] ∧ H a = some (.lst ((nb b).map V.int)) ∧ R = isV (.bl (b.all LsText.isShown))
theorem all_false {α : Type} {p : α → Bool} {l : List α} {i : Nat} {x : α} (h : l[i]? = some x) (k : p x = false) : l.all p = false := by
  rw [List.all_eq_false]
  exact ⟨x, List.mem_of_getElem? h, by rw [k]; decide⟩
theorem all_true {α : Type} {p : α → Bool} {l : List α} (h : ∀ (i : Nat) x, l[i]? = some x → p x = true) : l.all p = true := by
  rw [List.all_eq_true]
  intro x hx
  obtain ⟨i, hi⟩ := List.mem_iff_getElem?.mp hx
  exact h i x hi
theorem shown_eq (c : UInt8) : LsText.isShown c = !(decide (((c.toNat : Nat) : Int) < 32) || (decide ((126 : Int) < (c.toNat : Nat)) || decide (c.toNat = 34 ∨ c.toNat = 92))) := by
  unfold LsText.isShown
  have e1 : (c != 34) = decide (c.toNat ≠ 34) := by
    rw [Bool.eq_iff_iff, bne_iff_ne, decide_eq_true_eq]
    exact not_congr ⟨fun h => by rw [h]; rfl, fun h => UInt8.toNat_inj.mp h⟩
  have e2 : (c != 92) = decide (c.toNat ≠ 92) := by
    rw [Bool.eq_iff_iff, bne_iff_ne, decide_eq_true_eq]
    exact not_congr ⟨fun h => by rw [h]; rfl, fun h => UInt8.toNat_inj.mp h⟩
  rw [e1, e2, Bool.eq_iff_iff]
  simp only [Bool.and_eq_true, decide_eq_true_eq, Bool.not_eq_true', Bool.or_eq_false_iff, decide_eq_false_iff_not]
  omega
theorem ok_is_name (T : Txt K mg A)  {f : Addr} {fd : FuncData} (F : C8.Def K mg "is_name" s_is_name f fd) (bb : Binds K fd ["name"] []) : C8.Cal P w K mg base 1 "is_name" (sp_is_name K A) [] := by
  refine C8.cal0 F bb .nil sc_is_name (fun vs H Q E h => ?_) (fun cdv Ar outer s H vs Q E hr h => ?_)
  · obtain ⟨R, ⟨a, b, rfl, _⟩, _⟩ := h
    rfl
  · obtain ⟨R, ⟨a, b, rfl, hA, rfl⟩, k⟩ := h
    refine ⟨_, (pss_cons (ps_for PassesOwn.never rfl (pi_list (pv 0)) (pg_name (i := 1) sc_is_name.nd rfl (Or.inl rfl)) (pss_one (ps_if (PW.pt (pw_or (pt_cmpR op_lt (pv 1) (C8.pe_gc rfl T.g_FIRST_SIGN) (nomark _)) (pw_or (pt_cmpR op_gt (pv 1) (C8.pe_gc rfl T.g_LAST_SIGN) (nomark _)) (pw_or1 (pt_cmpR op_in_seq (pv 1) (C8.pe_gc rfl T.g_NO_SIGNS) (by rfl)))))) (pss_one (ps_ret pe_bl)) pss_nil))) (pss_one (ps_ret pe_bl))), body (s_seq (M := fun σ' _ => ∀ (j : Nat) y, b[j]? = some y → LsText.isShown y = true) (s_forQ (F := RI) (L := nb b) (Same.refl _) ((ev_var rfl).imp fun v H1 s e => by cases e; exact ⟨a, rfl, ints_iff.mpr (s _ _ hA)⟩)
      (fun i σ' => (∃ v1, σ' = [some (.ref a), v1]) ∧ ∀ (j : Nat) y, j < i → b[j]? = some y → LsText.isShown y = true) ⟨⟨_, rfl⟩, fun j y h => by omega⟩ (fun i z v σ' H' hz s hv p => ?_) fun σ' H' s p j y hy => p.2 j y (by rw [nb_len]; exact (List.getElem?_eq_some_iff.mp hy).1) hy) fun σ' H2 s2 hM => s_ret s2 (ev_c.is ?_)) k⟩
    · obtain ⟨⟨v1, rfl⟩, hp⟩ := p
      cases hv
      unfold nb at hz
      rw [List.getElem?_map] at hz
      obtain ⟨c, hc, rfl⟩ := Option.map_eq_some_iff.mp hz
      refine s_if (b := !LsText.isShown c) ((et_or (et_test (e_lt (ev_var rfl) ev_c)) fun _ => et_or (et_test (e_gt (ev_var rfl) ev_c)) fun _ => et_test (e_inW (ev_var rfl) ev_c (T.w_NO_SIGNS H') rfl rfl (in_two c.toNat 34 92))).is (by rw [shown_eq, Bool.not_not])) (fun c1 => s_ret (Same.refl _) (ev_c.is ?_)) fun c1 => s_nx fun H4 e => ⟨e, ⟨_, rfl⟩, fun j y hj hy => ?_⟩
      · exact congrArg V.bl (all_false hc (by simpa using c1)).symm
      · by_cases q : j = i
        · subst q
          rw [hc] at hy; cases hy
          simpa using c1
        · exact hp j y (by omega) hy
    · exact congrArg V.bl (all_true hM).symm
def placesOk (ns : List Nat) : Bool := (decide (ns.length % 2 = 0) && decide (ns.length ≤ 128)) && ns.all EditSpec.on
def sp_are_places (K : PySem.W.Frag) (A : Ad) : Sp := pure fun vs H R => ∃ (a : Addr) (ns : List Nat), vs = [.ref a] ∧ H a = some (.lst ((natI ns).map V.int)) ∧ R = isV (.bl (placesOk ns))
theorem ok_are_places (T : Txt K mg A)  {f : Addr} {fd : FuncData} (F : C8.Def K mg "are_places" s_are_places f fd) (bb : Binds K fd ["told"] []) : C8.Cal P w K mg base 1 "are_places" (sp_are_places K A) [] := by
  refine C8.cal0 F bb .nil sc_are_places (fun vs H Q E h => ?_) (fun cdv Ar outer s H vs Q E hr h => ?_)
  · obtain ⟨R, ⟨a, b, rfl, _⟩, _⟩ := h
    rfl
  · obtain ⟨R, ⟨a, b, rfl, hA, rfl⟩, k⟩ := h
    have hlen : (natI b).length = b.length := List.length_map _
    refine ⟨_, (pss_cons (ps_if (PW.pt (pw_or (pt_cmpR op_eq (pe_op op_mod (pe_callB call_len_seq (by rfl) T.len (by decide +kernel) (pa_cons (pv 0) pa_nil)) pe_int) pe_int (nomark _)) (pw_or1 (pt_cmpR op_gt (pe_callB call_len_seq (by rfl) T.len (by decide +kernel) (pa_cons (pv 0) pa_nil)) (pe_op op_mul pe_int (C8.pe_gc rfl T.g_MOST_PLACES)) (nomark _))))) (pss_one (ps_ret pe_bl)) pss_nil) (pss_cons (ps_for PassesOwn.never rfl (pi_list (pv 0)) (pg_name (i := 1) sc_are_places.nd rfl (Or.inl rfl)) (pss_one (ps_if (pt_cmpR op_gt (pv 1) (C8.pe_gc rfl T.g_LAST_COORDINATE) (nomark _)) (pss_one (ps_ret pe_bl)) pss_nil))) (pss_one (ps_ret pe_bl)))), body (s_when (b := decide (b.length % 2 = 1) || decide (128 < b.length)) ((et_or (et_test (e_eq (ev_op (e_lenI (ev_var rfl) hA) ev_c (rv_I (g := fun i j => V.int (i % j)) (C := fun _ j => 0 < j) (j := 2) (by decide))) ev_c)) fun _ => et_test (e_gt (e_lenI (ev_var rfl) hA) (e_mul ev_c ev_c (by unfold CMul; omega)))).is ?_) (fun c => s_ret (Same.refl _) (ev_c.is ?_)) fun c => s_seq (M := fun σ' _ => ∀ (j : Nat) y, b[j]? = some y → EditSpec.on y = true) (s_forQ (F := RI) (L := natI b) (Same.refl _) ((ev_var rfl).imp fun v H1 s e => by cases e; exact ⟨a, rfl, ints_iff.mpr (s _ _ hA)⟩)
      (fun i σ' => (∃ v1, σ' = [some (.ref a), v1]) ∧ ∀ (j : Nat) y, j < i → b[j]? = some y → EditSpec.on y = true) ⟨⟨_, rfl⟩, fun j y h => by omega⟩ (fun i z v σ' H' hz s hv p => ?_) fun σ' H' s p j y hy => p.2 j y (by rw [hlen]; exact (List.getElem?_eq_some_iff.mp hy).1) hy) fun σ' H2 s2 hM => s_ret s2 (ev_c.is ?_)) k⟩
    · rw [hlen, show decide ((b.length : Int) % 2 = 1) = decide (b.length % 2 = 1) from decide_eq_decide.mpr (by omega), show decide ((2 : Int) * 64 < (b.length : Int)) = decide (128 < b.length) from decide_eq_decide.mpr (by omega)]
    · refine congrArg V.bl ?_
      rw [Bool.or_eq_true, decide_eq_true_eq, decide_eq_true_eq] at c
      unfold placesOk
      symm
      rw [Bool.and_eq_false_iff, Bool.and_eq_false_iff, decide_eq_false_iff_not, decide_eq_false_iff_not]
      left; omega
    · obtain ⟨⟨v1, rfl⟩, hp⟩ := p
      cases hv
      rw [Bool.or_eq_false_iff, decide_eq_false_iff_not, decide_eq_false_iff_not] at c
      unfold natI at hz
      rw [List.getElem?_map] at hz
      obtain ⟨n, hn, rfl⟩ := Option.map_eq_some_iff.mp hz
      refine s_if (b := !EditSpec.on n) ((et_test (e_gt (ev_var rfl) ev_c)).is ?_) (fun c1 => s_ret (Same.refl _) (ev_c.is ?_)) fun c1 => s_nx fun H4 e => ⟨e, ⟨_, rfl⟩, fun j y hj hy => ?_⟩
      · unfold EditSpec.on
        rw [Bool.eq_iff_iff]
        simp only [decide_eq_true_eq, Bool.not_eq_true', decide_eq_false_iff_not]; omega
      · refine congrArg V.bl ?_
        unfold placesOk
        rw [all_false hn (by simpa using c1), Bool.and_false]
      · by_cases q : j = i
        · subst q
          rw [hn] at hy; cases hy
          simpa using c1
        · exact hp j y (by omega) hy
    · refine congrArg V.bl ?_
      rw [Bool.or_eq_false_iff, decide_eq_false_iff_not, decide_eq_false_iff_not] at c
      unfold placesOk
      rw [all_true hM, Bool.and_true]
      symm
      rw [Bool.and_eq_true, decide_eq_true_eq, decide_eq_true_eq]; omega
def inBnd (d n k h : Nat) : Bool := (EditSpec.isDay d && EditSpec.isNumber n) && (decide (k ≤ 31) && decide (h ≤ 2))
def sp_put_in_bounds (K : PySem.W.Frag) (A : Ad) : Sp := pure fun vs H R => ∃ (d n k h : Nat), vs = [.int d, .int n, .int k, .int h] ∧ R = isV (.bl (inBnd d n k h))
theorem ok_put_in_bounds (T : Txt K mg A) (c_is_day : C8.Cal P w K mg base 1 "is_day" (sp_is_day K A) []) (c_is_number : C8.Cal P w K mg base 1 "is_number" (sp_is_number K A) []) {f : Addr} {fd : FuncData} (F : C8.Def K mg "put_in_bounds" s_put_in_bounds f fd) (bb : Binds K fd ["day", "number", "group", "kind"] []) : C8.Cal P w K mg base 2 "put_in_bounds" (sp_put_in_bounds K A) [] := by
  refine C8.cal0 F bb .nil sc_put_in_bounds (fun vs H Q E h => ?_) (fun cdv Ar outer s H vs Q E hr h => ?_)
  · obtain ⟨R, ⟨d, n, kk, hh, rfl, _⟩, _⟩ := h
    rfl
  · obtain ⟨R, ⟨d, n, kk, hh, rfl, rfl⟩, k⟩ := h
    refine ⟨_, (pss_cons (ps_if (PW.pt (pw_or (pt_not (pt_val (C8.pe_c c_is_day hr (by decide) rfl (pa_cons (pv 0) pa_nil)))) (pw_or1 (pt_not (pt_val (C8.pe_c c_is_number hr (by decide) rfl (pa_cons (pv 1) pa_nil))))))) (pss_one (ps_ret pe_bl)) pss_nil) (pss_one (ps_ret (pe_and (pe_cmpR op_le (pv 2) (C8.pe_gc rfl T.g_LAST_GROUP) (nomark _)) (pe_one (pe_cmpR op_le (pv 3) (C8.pe_gc rfl T.g_AREA) (nomark _))))))), body (s_when (b := (!EditSpec.isDay d) || !EditSpec.isNumber n) ((et_or (et_not (et_B (e_isDay (ev_var rfl)))) fun _ => et_not (et_B (e_isNumber (ev_var rfl)))).is (by rw [isDay_eq, isNum_eq])) (fun c1 => s_ret (Same.refl _) (ev_c.is ?_)) fun c1 => s_ret (Same.refl _) ((e_andV (e_le (ev_var rfl) ev_c) fun _ => e_le (ev_var rfl) ev_c).is ?_)) k⟩
    · refine congrArg V.bl ?_
      unfold inBnd
      cases h1 : EditSpec.isDay d <;> cases h2 : EditSpec.isNumber n <;> simp_all
    · refine congrArg V.bl ?_
      unfold inBnd
      rw [Bool.or_eq_false_iff, Bool.not_eq_false', Bool.not_eq_false'] at c1
      rw [c1.1, c1.2, show decide ((kk : Int) ≤ 31) = decide (kk ≤ 31) from decide_eq_decide.mpr (by omega), show decide ((hh : Int) ≤ 2) = decide (hh ≤ 2) from decide_eq_decide.mpr (by omega)]
      rfl
/-! what changes the log -/
/-- without the log's list, and without a list of numbers that grows elsewhere -/
def rm2 (H : Hp) (ea tp : Addr) : Hp := rm (rm H ea) tp
theorem rm2_same {ea tp : Addr} : Same (rm2 H ea tp) H := rm_same.trans rm_same
/-- the log's things stand whatever becomes of its list, and of the numbers at tp -/
def LogQ (A : Ad) (tp : Addr) (H : Hp) (g ea : Addr) (zs : List En) : Prop := ∃ (dx : Addr) (tn : Obj × HO), H g = some (.ins A.aLogbook dx [("entries", .ref ea)]) ∧ H ea = some (.lst (zs.map fun z => V.ref z.2)) ∧ H tp = some (.frz tn.1 tn.2) ∧ tp ≠ ea ∧ Ents A (rm2 H ea tp) [] zs
theorem LogQ.p {g ea tp : Addr} {zs : List En} (h : LogQ A tp H g ea zs) : LogP A H g ea zs := by
  obtain ⟨dx, tn, h1, h2, _, _, h3⟩ := h
  exact ⟨dx, h1, h2, h3.mono rm2_same⟩
theorem rm_mono {H H' : Hp} {a : Addr} (e : Same H H') : Same (rm H a) (rm H' a) := fun b u hb => by
  unfold rm at hb ⊢
  split at hb
  · cases hb
  · rename_i c
    rw [if_neg c]; exact e _ _ hb
theorem rm2_mono {H H' : Hp} {ea tp : Addr} (e : Same H H') : Same (rm2 H ea tp) (rm2 H' ea tp) := rm_mono (rm_mono e)
theorem rm_of2 {H H' : Hp} {a : Addr} (e : Same (rm H a) H') : Same (rm H a) (rm H' a) := rm_of e rm_at
theorem rm2_of {H H' : Hp} {ea tp : Addr} (e : Same (rm H ea) H') : Same (rm2 H ea tp) (rm2 H' ea tp) := rm_mono (rm_of2 e)
theorem rm2_ne {H : Hp} {a ea tp : Addr} {u : HO} (h : H a = some u) (n1 : a ≠ ea) (n2 : a ≠ tp) : rm2 H ea tp a = some u := rm_ne (rm_ne h n1) n2
theorem LogQ.mono {H H' : Hp} {g ea tp : Addr} {zs : List En} (e : Same H H') (h : LogQ A tp H g ea zs) : LogQ A tp H' g ea zs := by
  obtain ⟨dx, tn, h1, h2, ht, hn, h3⟩ := h
  exact ⟨dx, tn, e _ _ h1, e _ _ h2, e _ _ ht, hn, h3.mono (rm2_mono e)⟩
def RDeed (A : Ad) (tp g ea : Addr) (l : Log) (q : EditSpec.Call) : RR := fun v H' => ∃ zs', LogQ A tp H' g ea zs' ∧ lg zs' = (EditSpec.step l q).1 ∧ GoodL (lg zs') ∧ RLst RI (LsRows.told (EditSpec.step l q).2) v H'
def RRow (r : List Int) : RR := RLst RI r
instance (b : List Int) : Mono (RRow b) := (inferInstance : Mono (RLst RI b))
def spDeed (F : List Nat → List (List Int) → Option EditSpec.Call) (A : Ad) : Sp := fun vs H Q _ => ∃ (tp g ea na ra : Addr) (zs : List En) (ns : List Nat) (rs : List (List Int)) (q : EditSpec.Call), vs = [.ref g, .ref na, .ref ra] ∧ LogQ A tp H g ea zs ∧ GoodL (lg zs) ∧
  H na = some (.lst ((natI ns).map V.int)) ∧ LstAt RRow (rm2 H ea tp) ra rs ∧ F ns rs = some q ∧ ∀ v H', Same (rm H ea) H' → RDeed A tp g ea (lg zs) q v H' → Q v H'
theorem e_stay {tp g ea : Addr} {zs : List En} {q : EditSpec.Call} {a : LsAns.Ans} (h : EvP te σ H (RLst RI (LsRows.told a))) (hq : EditSpec.step (lg zs) q = (lg zs, a)) (hL : LogQ A tp H g ea zs) (gd : GoodL (lg zs)) : EvP te σ H (RDeed A tp g ea (lg zs) q) := h.imp fun v H1 s hv => ⟨zs, hL.mono s, by rw [hq], gd, by rw [hq]; exact hv⟩
theorem s_enter {Rv : RR} {E : XK} {tp g ea : Addr} {zs : List En} (hL : LogQ A tp H g ea zs) (hl : zs.length < 1000) (ho : EvP to σ H (isV (.ref g))) (ht : EvP te σ H Rv) (k : ∀ v H1 H2, Same H H1 → Rv v H1 → Same (rm H1 ea) H2 → H2 ea = some (.lst ((zs.map fun z => V.ref z.2) ++ [v])) → Run u σ B H2 R N) :
    Run (tSeq (tDrop (tMeth A.aLogbook "enter" (sp_Logbook_enter K A) [] E to (tCons te tNil))) u) σ B H R N := fun H1 e D q n => by
  obtain ⟨dx, tn, h1, h2, _, _, h3⟩ := hL
  refine ho H1 e _ fun v H2 e2 hv => ?_
  cases hv
  refine ⟨g, dx, _, rfl, (e.trans e2) _ _ h1, logFs_none (by decide +kernel), ht H2 (e.trans e2) _ fun v H3 e3 hv => ?_⟩
  have e03 := (e.trans e2).trans e3
  exact ⟨g, dx, ea, _, v, rfl, e03 _ _ h1, e03 _ _ h2, by rw [List.length_map]; exact hl, fun H' s' h' => k v H3 H' e03 hv s' h' H' (Same.refl _) D q n⟩
theorem e_mk {C : Addr} {m : Nat} {F : List V → List (Str × V)} {ta : TA} {E : XK} {S : List V → Hp → Prop} (h : EvA ta σ H S) (hm : ∀ vs H1, S vs H1 → vs.length = m) (mo : ∀ vs H1 H2, Same H1 H2 → S vs H1 → S vs H2) : EvP (tMake C (mkSp C m F) [] E ta) σ H (fun v H' => ∃ x dx ws, v = .ref x ∧ S ws H' ∧ H' x = some (.ins C dx (F ws))) := fun H1 e Q q =>
  h H1 e _ fun ws H2 e2 hS x dx hx hdx hne => by
    rw [List.append_nil]
    refine ⟨x, dx, ws, rfl, hm _ _ hS, upd_same, fun H' s' h' => ⟨rfl, ?_⟩⟩
    have sm : Same H2 H' := fun b u hb => s' _ _ (rm_ne (by
      rw [upd_ne (ne_of_none hb hx), upd_ne (ne_of_none hb hdx)]; exact hb) (ne_of_none hb hx))
    exact q _ H' (e2.trans sm) ⟨x, dx, ws, rfl, mo _ _ _ sm hS, h'⟩
theorem lq_size {zs : List En} (gd : GoodL (lg zs)) : zs.length ≤ 400 := by have := gd.len; unfold lg at this; rw [List.length_map] at this; exact this
/-- the log behind an entry -/
theorem log_entered {H1 H2 : Hp} {tp g ea x : Addr} {zs : List En} {e : Ey} (hL : LogQ A tp H g ea zs) (s1 : Same H H1) (s2 : Same (rm H1 ea) H2) (h2 : H2 ea = some (.lst ((zs.map fun z => V.ref z.2) ++ [.ref x]))) (he : EntAt A (rm2 H1 ea tp) (landFrom [] (lg zs)) (e, x)) : LogQ A tp H2 g ea (zs ++ [(e, x)]) := by
  obtain ⟨dx, tn, a1, a2, a4, a5, a3⟩ := hL.mono s1
  have sr := rm2_of (tp := tp) s2
  refine ⟨dx, tn, s2 _ _ (rm_ne a1 (ne_of a1 a2 (by intro z; cases z))), by rw [h2, List.map_append]; rfl, s2 _ _ (rm_ne a4 a5), a5, ?_⟩
  exact (a3.mono sr).app (he.mono sr)
theorem ent_ins {z : En} {M : Land} (h : EntAt A H M z) : ∃ C dx fs, H z.2 = some (.ins C dx fs) := by
  unfold EntAt at h
  cases hw : z.1.what with
  | put f => rw [hw] at h; obtain ⟨dx, fa, h1, _⟩ := h; exact ⟨_, _, _, h1⟩
  | out n => rw [hw] at h; obtain ⟨dx, h1⟩ := h; exact ⟨_, _, _, h1⟩
  | issue c => rw [hw] at h; obtain ⟨dx, sa, da, h1, _⟩ := h; exact ⟨_, _, _, h1⟩
theorem lst_rm {H : Hp} {pa ea : Addr} {ps : List Pt} {u : HO} (h : LstAt RPt H pa ps) (hea : H ea = some u) (hk : ∀ xs, HO.tup xs ≠ u) (hne : pa ≠ ea) : LstAt RPt (rm H ea) pa ps := by
  obtain ⟨vs, h3, h4⟩ := h
  refine ⟨vs, rm_ne h3 hne, h4.monoP fun v x q => ?_⟩
  obtain ⟨p, rfl, hp⟩ := q
  exact ⟨p, rfl, rm_ne hp (ne_of hp hea (hk _))⟩
theorem e_lastDay {g ea : Addr} {zs : List En} {E : XK} (ho : EvP to σ H (isV (.ref g))) (hL : LogP A H g ea zs) : EvP (tMeth A.aLogbook "last_day" (sp_Logbook_last_day K A) [] E to tNil) σ H (isV (.int (LsEdit.lastDay (lg zs)))) := by
  obtain ⟨dx, h1, _⟩ := id hL
  exact e_meth ho h1 (logFs_none (by decide +kernel)) ea_nil fun vs H2 e hv => by
    cases hv
    exact ⟨g, ea, zs, rfl, hL.mono e, rfl⟩
theorem e_isFull {g ea : Addr} {zs : List En} {E : XK} (ho : EvP to σ H (isV (.ref g))) (hL : LogP A H g ea zs) : EvP (tMeth A.aLogbook "is_full" (sp_Logbook_is_full K A) [] E to tNil) σ H (isV (.bl (decide (400 ≤ zs.length)))) := by
  obtain ⟨dx, h1, _⟩ := id hL
  exact e_meth ho h1 (logFs_none (by decide +kernel)) ea_nil fun vs H2 e hv => by
    cases hv
    exact ⟨g, ea, zs, rfl, hL.mono e, rfl⟩
theorem s_unl2N {i j : Nat} {a : Addr} {ns : List Nat} {n m : Nat} (hns : ns = [n, m]) (h : EvP te σ H (isV (.ref a))) (hl : H a = some (.lst ((natI ns).map V.int))) (k : ∀ H1, Same H H1 → Run u ((σ.set i (some (.int n))).set j (some (.int m))) B H1 R N) : Run (tSeq (tAsg te (gUnl K 2 (gCons (gName i) (gCons (gName j) gNil)))) u) σ B H R N := by
  subst hns
  exact s_unl2 h hl k
end
end Wk
end
/-! ### WDeed2 -/
section
set_option Elab.async false
set_option linter.all false
set_option maxRecDepth 100000
set_option maxHeartbeats 2000000
namespace Wk
open PySem PySem.Spec PyProof.Rows L2
open LsGeo (Pt)
open LsRefs (Sheet)
open LsText (Bytes)
open LsLand (Feature Land)
open LsEdit (Log What)
theorem bodyD {t : TS} {σ : L2.St} {B H : Hp} {Q : VK} {R : RR} (h : Run t σ B H R noN) (q : ∀ v H', Same B H' → R v H' → Q v H') : t { nx := fun _ H' => Q .non H', rt := Q } σ H :=
  h H (Same.refl _) _ q fun _ _ _ z => z.elim
theorem step_out (l : Log) (d n : Nat) : EditSpec.step l (.out d n) = (if EditSpec.isDay d = false ∨ EditSpec.isNumber n = false then (l, LsAns.says (-1)) else if (LsLand.find (LsEdit.landOf l) n).isNone = true then (l, LsAns.says (-4)) else EditSpec.enter l d (.out n) (LsAns.says 0)) := rfl
theorem enter_eq (l : Log) (d : Nat) (w : What) (a : LsAns.Ans) : EditSpec.enter l d w a = (if 400 ≤ l.length then (l, LsAns.says (-7)) else if d < LsEdit.lastDay l then (l, LsAns.says (-5)) else (l ++ [⟨d, w⟩], a)) := rfl
theorem lg_app (zs : List En) (e : Ey) (x : Addr) : lg (zs ++ [(e, x)]) = lg zs ++ [e] := by unfold lg; rw [List.map_append]; rfl
theorem lg_len (zs : List En) : (lg zs).length = zs.length := List.length_map _
theorem isDay_le {d : Nat} (h : EditSpec.isDay d = true) : d ≤ 99999 := by unfold EditSpec.isDay LsEdit.DAYS at h; exact of_decide_eq_true h
theorem isNum_le {d : Nat} (h : EditSpec.isNumber d = true) : 1 ≤ d ∧ d ≤ 9999 := by
  unfold EditSpec.isNumber LsLand.NUMBER at h
  rw [Bool.and_eq_true, decide_eq_true_eq, decide_eq_true_eq] at h
  exact h
theorem toNat_byte {n : Int} (h0 : 0 ≤ n) (h1 : n < 256) : (((UInt8.ofNat n.toNat).toNat : Nat) : Int) = n := by
  rw [UInt8.toNat_ofNat']; omega
theorem text_nb {r : List Int} {c : Bytes} (h : LsRows.text? r = some c) : r = nb c := by
  unfold LsRows.text? at h
  split at h
  · rename_i hb
    cases h
    unfold nb
    rw [List.map_map]
    refine ((List.map_congr_left fun x hx => ?_).trans (List.map_id _)).symm
    unfold NeutralIO.bytes at hb
    rw [List.all_eq_true] at hb
    have := hb x hx
    simp only [Bool.and_eq_true, decide_eq_true_eq] at this
    exact toNat_byte (by omega) (by omega)
  · cases h
theorem issue_cases (l : Log) (d : Nat) (c : Bytes) : ((refP (EditSpec.isDay d) [c]).length ≠ 0 ∧ ∃ a, EditSpec.issueIn l d c = (l, a) ∧ LsRows.told a = refP (EditSpec.isDay d) [c]) ∨ ((refP (EditSpec.isDay d) [c]).length = 0 ∧ EditSpec.isDay d = true ∧ ∃ s, LsRefs.readCode c = .ok s ∧ c.length ≤ 32 ∧
    EditSpec.issueIn l d c = (if 400 ≤ l.length then (l, LsAns.says (-7)) else if ((LsEdit.editions l s).getLast?.any fun (e : LsEdit.Edition) => e.land == LsEdit.onSheet (LsEdit.landOf l) s) = true then (l, LsAns.says (-5)) else EditSpec.enter l d (.issue s) (LsAns.says ((LsEdit.editions l s).length + 1 : Nat)))) := by
  unfold EditSpec.issueIn refP EditSpec.CODE
  by_cases h1 : 32 < c.length
  · left
    rw [if_pos h1, if_pos (by simp [h1])]
    exact ⟨by simp, _, rfl, rfl⟩
  · rw [if_neg h1, if_neg (by simp; omega)]
    cases hd : EditSpec.isDay d with
    | false => left; exact ⟨by simp, _, rfl, rfl⟩
    | true =>
      cases hr : LsRefs.readCode c with
      | error p =>
        left
        have e := fault_err hr
        simp [e]
        rfl
      | ok s =>
        right
        have e := fault_okc hr
        simp only [List.find?_cons, e]
        refine ⟨by simp, by first | rfl | trivial, s, rfl, by omega, ?_⟩
        simp
        rfl
section
variable {P : Program} {w : World} {K : PySem.W.Frag} {mg : Str → Option Value} {base : Heap} {A : Ad} {σ : L2.St} {H B : Hp} {ta tb te to td ty tv tl : TE} {u : TS} {R Ra : RR} {N : L2.St → Hp → Prop} {L : Land} {z : En} {c : Sheet} {x : LsEdit.Edition}
theorem e_stay1 {tp g ea : Addr} {zs : List En} {q : EditSpec.Call} {n : Int} (h : EvP te σ H (isV (.int n))) (hq : EditSpec.step (lg zs) q = (lg zs, LsAns.says n)) (hL : LogQ A tp H g ea zs) (gd : GoodL (lg zs)) : EvP (tLst (tCons te tNil)) σ H (RDeed A tp g ea (lg zs) q) :=
  e_stay (a := LsAns.says n) (by rw [told_says]; exact e_retI h) hq hL gd
theorem e_done {tp g ea x : Addr} {zs : List En} {q : EditSpec.Call} {n : Int} {e : Ey} (h : EvP te σ H (isV (.int n))) (hL : LogQ A tp H g ea (zs ++ [(e, x)])) (hq : EditSpec.step (lg zs) q = (lg zs ++ [e], LsAns.says n)) (gd : GoodL (lg zs ++ [e])) : EvP (tLst (tCons te tNil)) σ H (RDeed A tp g ea (lg zs) q) :=
  (e_retI h).imp fun v H1 s hv => ⟨zs ++ [(e, x)], hL.mono s, by rw [lg_app, hq], by rw [lg_app]; exact gd, by rw [hq, told_says]; exact hv⟩
def sp_take_out (K : PySem.W.Frag) (A : Ad) : Sp := spDeed (fun ns rs => match ns with
  | [d, n] => some (.out d n)
  | _ => none) A
def sp_undo (K : PySem.W.Frag) (A : Ad) : Sp := spDeed (fun ns rs => some .undo) A
def sp_issue (K : PySem.W.Frag) (A : Ad) : Sp := spDeed (fun ns rs => match ns, rs with
  | [d], [r] => (LsRows.text? r).map (EditSpec.Call.issue d)
  | _, _ => none) A
theorem ok_take_out (T : Txt K mg A) (c_Logbook_enter : C8.Met P w K mg base 1 A.aLogbook "enter" (sp_Logbook_enter K A) []) (c_Logbook_is_full : C8.Met P w K mg base 1 A.aLogbook "is_full" (sp_Logbook_is_full K A) []) (c_Logbook_land_of : C8.Met P w K mg base 2 A.aLogbook "land_of" (sp_Logbook_land_of K A) []) (c_Logbook_last_day : C8.Met P w K mg base 1 A.aLogbook "last_day" (sp_Logbook_last_day K A) []) (c_Out : C8.Mak P w K mg base 1 "Out" A.aOut (sp_Out_init K A) []) (c_is_day : C8.Cal P w K mg base 1 "is_day" (sp_is_day K A) []) (c_is_number : C8.Cal P w K mg base 1 "is_number" (sp_is_number K A) []) {f : Addr} {fd : FuncData} (F : C8.Def K mg "take_out" s_take_out f fd) (bb : Binds K fd ["log", "numbers", "rows"] []) : C8.Cal P w K mg base 3 "take_out" (sp_take_out K A) [] := by
  refine C8.cal0 F bb .nil sc_take_out (fun vs H Q E h => ?_) (fun cdv Ar outer s H vs Q E hr h => ?_)
  · obtain ⟨tp, g, ea, na, ra, zs, ns, rs, q, rfl, _⟩ := h
    rfl
  · obtain ⟨tp, g, ea, na, ra, zs, ns, rs, q, rfl, hL, gd, hn, hrw, hF, k⟩ := h
    obtain ⟨d, n, rfl⟩ : ∃ d n, ns = [d, n] := by
      match ns, hF with
      | [d, n], _ => exact ⟨d, n, rfl⟩
    cases hF
    have gu := gd.land
    have zl := lq_size gd
    have ll := lg_len zs
    refine ⟨_, (pss_cons (ps_asg (pv 1) (pg_unl rfl (pgs_cons (pg_name (i := 3) sc_take_out.nd rfl (Or.inl rfl)) (pgs_cons (pg_name (i := 4) sc_take_out.nd rfl (Or.inl rfl)) pgs_nil)))) (pss_cons (ps_if (PW.pt (pw_or (pt_not (pt_val (C8.pe_c c_is_day hr (by decide) rfl (pa_cons (pv 3) pa_nil)))) (pw_or1 (pt_not (pt_val (C8.pe_c c_is_number hr (by decide) rfl (pa_cons (pv 4) pa_nil))))))) (pss_one (ps_ret (pe_lst (pa_cons (C8.pe_gc rfl T.g_OUT_OF_BOUNDS) pa_nil)))) pss_nil) (pss_cons (ps_if (pt_cmp (pc_dnotin (hu_of hr) (pv 4) (C8.pe_mt c_Logbook_land_of hr (by decide) (pv 0) (pa_cons (C8.pe_gc rfl T.g_LAST_DAY) pa_nil)))) (pss_one (ps_ret (pe_lst (pa_cons (C8.pe_gc rfl T.g_NO_SUCH) pa_nil)))) pss_nil) (pss_cons (ps_if (pt_val (C8.pe_mt0 c_Logbook_is_full hr (by decide) (pv 0))) (pss_one (ps_ret (pe_lst (pa_cons (C8.pe_gc rfl T.g_FULL) pa_nil)))) pss_nil) (pss_cons (ps_if (pt_cmpR op_lt (pv 3) (C8.pe_mt0 c_Logbook_last_day hr (by decide) (pv 0)) (nomark _)) (pss_one (ps_ret (pe_lst (pa_cons (C8.pe_gc rfl T.g_NOT_NOW) pa_nil)))) pss_nil) (pss_cons (ps_expr (C8.pe_mt c_Logbook_enter hr (by decide) (pv 0) (pa_cons (C8.pe_mk c_Out hr (by decide) rfl (pa_cons (pv 3) (pa_cons (pv 4) pa_nil))) pa_nil))) (pss_one (ps_ret (pe_lst (pa_cons pe_int pa_nil)))))))))), bodyD (B := rm H ea) (R := RDeed A tp g ea (lg zs) (.out d n)) (s_unl2N rfl (ev_var rfl) hn fun H1 s1 => ?_) k⟩
    refine s_when (b := (!EditSpec.isDay d) || !EditSpec.isNumber n) ((et_or (et_not (et_B (e_isDay (ev_var rfl)))) fun _ => et_not (et_B (e_isNumber (ev_var rfl)))).is (by rw [isDay_eq, isNum_eq])) (fun c1 => s_ret (rm_same.trans s1) ?_) fun c1 => ?_
    · have cc : EditSpec.isDay d = false ∨ EditSpec.isNumber n = false := by simpa using c1
      exact e_stay1 ev_c (by rw [step_out, if_pos cc]) (hL.mono s1) gd
    · have cc : ¬ (EditSpec.isDay d = false ∨ EditSpec.isNumber n = false) := by simpa using c1
      have cd : EditSpec.isDay d = true ∧ EditSpec.isNumber n = true := by simpa using c1
      refine s_when (b := !(LsLand.find (LsEdit.landOf (lg zs)) n).isSome) (et_B ((e_dnotin (n := n) (L := LsEdit.landOf (LsEdit.upTo (lg zs) 99999)) (ev_var rfl) (e_landOf (ev_var rfl) ev_c (hL.mono s1).p gd) (by rw [upTo_all gd]; exact gu.ris)).is (by rw [upTo_all gd]))) (fun c2 => s_ret (rm_same.trans s1) ?_) fun c2 => ?_
      · refine e_stay1 ev_c ?_ (hL.mono s1) gd
        rw [step_out, if_neg cc, if_pos (by simpa using c2)]
      · have c2' : ¬ (LsLand.find (LsEdit.landOf (lg zs)) n).isNone = true := by
          intro z; rw [Option.isNone_iff_eq_none] at z; rw [z] at c2; cases c2
        refine s_when (et_B (e_isFull (ev_var rfl) (hL.mono s1).p)) (fun c3 => s_ret (rm_same.trans s1) ?_) fun c3 => ?_
        · refine e_stay1 ev_c ?_ (hL.mono s1) gd
          rw [step_out, if_neg cc, if_neg c2', enter_eq, if_pos (by rw [ll]; exact of_decide_eq_true c3)]
        · have c3' : ¬ 400 ≤ (lg zs).length := by rw [ll]; exact of_decide_eq_false c3
          refine s_when (et_test (e_lt (ev_var rfl) (e_lastDay (ev_var rfl) (hL.mono s1).p))) (fun c4 => s_ret (rm_same.trans s1) ?_) fun c4 => ?_
          · refine e_stay1 ev_c ?_ (hL.mono s1) gd
            have c4' : (d : Int) < (LsEdit.lastDay (lg zs) : Nat) := of_decide_eq_true c4
            rw [step_out, if_neg cc, if_neg c2', enter_eq, if_neg c3', if_pos (by omega)]
          · have c4' : ¬ (d : Int) < (LsEdit.lastDay (lg zs) : Nat) := of_decide_eq_false c4
            refine s_enter (hL.mono s1) (by omega) (ev_var rfl) (e_mk (S := isA [.int d, .int n]) (ea_v2 rfl rfl) (fun vs H1 h => by cases h; rfl) fun _ _ _ _ h => h) fun v H2 H3 s2 hv s3 h3 => ?_
            obtain ⟨x, dx, ws, rfl, hws, hx⟩ := hv
            cases hws
            have s12 := s1.trans s2
            have hq : EditSpec.step (lg zs) (.out d n) = (lg zs ++ [⟨d, .out n⟩], LsAns.says 0) := by
              rw [step_out, if_neg cc, if_neg c2', enter_eq, if_neg c3', if_neg (by omega)]
            obtain ⟨_, tn, _, hea, htp, _, _⟩ := hL.mono s12
            refine s_ret ((rm_mono s12).trans s3) (e_done (x := x) (e := ⟨d, .out n⟩) ev_c (log_entered hL s12 s3 h3 ⟨dx, rm2_ne hx (ne_of hx hea (by intro z; cases z)) (ne_of hx htp (by intro z; cases z))⟩) hq (gd.app (by omega) (isDay_le cd.1) (by show _ ≤ d; omega) ⟨(isNum_le cd.2).1, (isNum_le cd.2).2, show (LsLand.find (LsEdit.landOf (lg zs)) n).isSome = true by simpa using c2⟩ ?_))
            exact Nat.le_trans (List.length_filter_le _ _) gd.size
theorem ok_undo (T : Txt K mg A) (c_Logbook_take_back : C8.Met P w K mg base 1 A.aLogbook "take_back" (sp_Logbook_take_back K A) []) {f : Addr} {fd : FuncData} (F : C8.Def K mg "undo" s_undo f fd) (bb : Binds K fd ["log", "numbers", "rows"] []) : C8.Cal P w K mg base 2 "undo" (sp_undo K A) [] := by
  refine C8.cal0 F bb .nil sc_undo (fun vs H Q E h => ?_) (fun cdv Ar outer s H vs Q E hr h => ?_)
  · obtain ⟨tp, g, ea, na, ra, zs, ns, rs, q, rfl, _⟩ := h
    rfl
  · obtain ⟨tp, g, ea, na, ra, zs, ns, rs, q, rfl, hL, gd, hn, hrw, hF, k⟩ := h
    cases hF
    obtain ⟨dx, tn, h1, h2, htp, hte, h3⟩ := id hL
    refine ⟨_, (pss_cons (ps_if (pt_cmpR op_eq (pe_callB call_len_seq (by rfl) T.len (by decide +kernel) (pa_cons (pe_fld (pv 0) rfl) pa_nil)) pe_int (nomark _)) (pss_one (ps_ret (pe_lst (pa_cons (C8.pe_gc rfl T.g_NOTHING_THERE) pa_nil)))) pss_nil) (pss_cons (ps_expr (C8.pe_mt0 c_Logbook_take_back hr (by decide) (pv 0))) (pss_one (ps_ret (pe_lst (pa_cons pe_int pa_nil)))))), bodyD (B := rm H ea) (R := RDeed A tp g ea (lg zs) .undo) (s_when (et_test (e_eq (e_lenS (e_entries T (ev_var rfl) hL.p) h2) ev_c)) (fun c1 => s_ret rm_same ?_) fun c1 => ?_) k⟩
    · have e : lg zs = [] := by
        have := of_decide_eq_true c1
        rw [List.length_map] at this
        exact List.eq_nil_of_length_eq_zero (by rw [lg_len]; omega)
      exact e_stay1 ev_c (by show (if lg zs = [] then _ else _) = _; rw [if_pos e]) hL gd
    · have ne : lg zs ≠ [] := fun z => by
        have : zs = [] := List.map_eq_nil_iff.mp z
        subst this; simp at c1
      have zne : (zs.map fun z => V.ref z.2) ≠ [] := fun z => ne (by have : zs = [] := List.map_eq_nil_iff.mp z; subst this; rfl)
      have hq : EditSpec.step (lg zs) .undo = ((lg zs).dropLast, LsAns.says 0) := by show (if lg zs = [] then _ else _) = _; rw [if_neg ne]
      refine fun H1 e D qd nd => ?_
      refine ⟨_, rfl, g, dx, _, rfl, e _ _ h1, logFs_none (by decide +kernel), g, dx, ea, _, rfl, e _ _ h1, e _ _ h2, zne, fun H' s' h' => ?_⟩
      have sB : Same (rm H ea) H' := (rm_mono e).trans s'
      have hL' : LogQ A tp H' g ea zs.dropLast := by
        refine ⟨dx, tn, s' _ _ (rm_ne (e _ _ h1) (ne_of h1 h2 (by intro z; cases z))), by rw [h', List.map_dropLast], s' _ _ (rm_ne (e _ _ htp) hte), hte, ?_⟩
        rw [List.dropLast_eq_take]
        exact (h3.mono (rm2_mono e |>.trans (rm2_of s'))).take _
      have lgd : lg zs.dropLast = (lg zs).dropLast := by unfold lg; rw [List.map_dropLast]
      exact (e_retI (te := tC (.int 0)) (n := 0) (σ := start N_undo [.ref g, .ref na, .ref ra]) (H := H') ev_c) H' (Same.refl _) _ fun v H2 e2 hv => qd v H2 (sB.trans e2) ⟨zs.dropLast, hL'.mono e2, by rw [hq, lgd], by rw [lgd, List.dropLast_eq_take]; exact gd.take _, by rw [hq, told_says]; exact hv⟩
theorem e_rowB {c : Bytes} {ra : Addr} {rs : List (List Int)} (h : LstAt RRow H ra (nb c :: rs)) : ∃ v us, H ra = some (.lst (v :: us)) ∧ RBy c v H := by
  obtain ⟨vs, h1, h2⟩ := h
  cases h2 with
  | cons a b => exact ⟨_, _, h1, a⟩
theorem rows_one {c : Bytes} {ra : Addr} (h : LstAt RRow H ra [nb c]) : LstAt RBy H ra [c] := by
  obtain ⟨vs, h1, h2⟩ := h
  cases h2 with
  | cons a b => cases b; exact ⟨_, h1, .cons a .nil⟩
theorem ok_issue (T : Txt K mg A) (c_Issue : C8.Mak P w K mg base 1 "Issue" A.aIssue (sp_Issue_init K A) []) (c_Logbook_editions : C8.Met P w K mg base 3 A.aLogbook "editions" (sp_Logbook_editions K A) []) (c_Logbook_enter : C8.Met P w K mg base 1 A.aLogbook "enter" (sp_Logbook_enter K A) []) (c_Logbook_is_full : C8.Met P w K mg base 1 A.aLogbook "is_full" (sp_Logbook_is_full K A) []) (c_Logbook_land_of : C8.Met P w K mg base 2 A.aLogbook "land_of" (sp_Logbook_land_of K A) []) (c_Logbook_last_day : C8.Met P w K mg base 1 A.aLogbook "last_day" (sp_Logbook_last_day K A) []) (c_changes : C8.Cal P w K mg base 2 "changes" (sp_changes K A) []) (c_features_on : C8.Cal P w K mg base 5 "features_on" (sp_features_on K A) []) (c_is_day : C8.Cal P w K mg base 1 "is_day" (sp_is_day K A) []) (c_refusal : C8.Cal P w K mg base 2 "refusal" (sp_refusal K A) []) (c_sheet_of : C8.Cal P w K mg base 1 "sheet_of" (sp_sheet_of K A) []) {f : Addr} {fd : FuncData} (F : C8.Def K mg "issue" s_issue f fd) (bb : Binds K fd ["log", "numbers", "rows"] []) : C8.Cal P w K mg base 6 "issue" (sp_issue K A) [] := by
  refine C8.cal0 F bb .nil sc_issue (fun vs H Q E h => ?_) (fun cdv Ar outer s H vs Q E hr h => ?_)
  · obtain ⟨tp, g, ea, na, ra, zs, ns, rs, q, rfl, _⟩ := h
    rfl
  · obtain ⟨tp, g, ea, na, ra, zs, ns, rs, q, rfl, hL, gd, hn, hrw, hF, k⟩ := h
    obtain ⟨d, r, rfl, rfl⟩ : ∃ d r, ns = [d] ∧ rs = [r] := by
      match ns, rs, hF with
      | [d], [r], _ => exact ⟨d, r, rfl, rfl⟩
    obtain ⟨b, hb, rfl⟩ := Option.map_eq_some_iff.mp hF
    have hrow := text_nb hb
    subst hrow
    have hbr : LstAt RBy (rm2 H ea tp) ra [b] := rows_one hrw
    have hbb : LstAt RBy H ra [b] := hbr.mono rm2_same
    have gu := gd.land
    have zl := lq_size gd
    have ll := lg_len zs
    have st : EditSpec.step (lg zs) (.issue d b) = EditSpec.issueIn (lg zs) d b := rfl
    refine ⟨_, (pss_cons (ps_set (i := 3) sc_issue.nd rfl (Or.inl rfl) (pe_ix ix_list (pv 1) pe_int (fun _ _ => rfl))) (pss_cons (ps_set (i := 4) sc_issue.nd rfl (Or.inl rfl) (C8.pe_c c_refusal hr (by decide) rfl (pa_cons (C8.pe_c c_is_day hr (by decide) rfl (pa_cons (pv 3) pa_nil)) (pa_cons (pv 2) pa_nil)))) (pss_cons (ps_if (pt_cmpR op_gt (pe_callB call_len_seq (by rfl) T.len (by decide +kernel) (pa_cons (pv 4) pa_nil)) pe_int (nomark _)) (pss_one (ps_ret (pv 4))) pss_nil) (pss_cons (ps_if (pt_val (C8.pe_mt0 c_Logbook_is_full hr (by decide) (pv 0))) (pss_one (ps_ret (pe_lst (pa_cons (C8.pe_gc rfl T.g_FULL) pa_nil)))) pss_nil) (pss_cons (ps_set (i := 5) sc_issue.nd rfl (Or.inl rfl) (C8.pe_c c_sheet_of hr (by decide) rfl (pa_cons (pe_ix ix_list (pv 2) pe_int (fun _ _ => rfl)) pa_nil))) (pss_cons (ps_set (i := 6) sc_issue.nd rfl (Or.inl rfl) (C8.pe_c c_features_on hr (by decide) rfl (pa_cons (C8.pe_mt c_Logbook_land_of hr (by decide) (pv 0) (pa_cons (C8.pe_gc rfl T.g_LAST_DAY) pa_nil)) (pa_cons (pv 5) pa_nil)))) (pss_cons (ps_set (i := 7) sc_issue.nd rfl (Or.inl rfl) (C8.pe_mt c_Logbook_editions hr (by decide) (pv 0) (pa_cons (pv 5) (pa_cons (C8.pe_gc rfl T.g_LAST_DAY) pa_nil)))) (pss_cons (ps_if (PW.pt (pw_and (pt_cmpR op_gt (pe_callB call_len_seq (by rfl) T.len (by decide +kernel) (pa_cons (pv 7) pa_nil)) pe_int (nomark _)) (pw_and1 (pt_cmpR op_eq (pe_callB call_len_seq (by rfl) T.len (by decide +kernel) (pa_cons (C8.pe_c c_changes hr (by decide) rfl (pa_cons (pe_fld (pe_ix ix_list (pv 7) (pe_op op_sub (pe_callB call_len_seq (by rfl) T.len (by decide +kernel) (pa_cons (pv 7) pa_nil)) pe_int) (fun _ _ => rfl)) rfl) (pa_cons (pv 6) pa_nil))) pa_nil)) pe_int (nomark _))))) (pss_one (ps_ret (pe_lst (pa_cons (C8.pe_gc rfl T.g_NOT_NOW) pa_nil)))) pss_nil) (pss_cons (ps_if (pt_cmpR op_lt (pv 3) (C8.pe_mt0 c_Logbook_last_day hr (by decide) (pv 0)) (nomark _)) (pss_one (ps_ret (pe_lst (pa_cons (C8.pe_gc rfl T.g_NOT_NOW) pa_nil)))) pss_nil) (pss_cons (ps_expr (C8.pe_mt c_Logbook_enter hr (by decide) (pv 0) (pa_cons (C8.pe_mk c_Issue hr (by decide) rfl (pa_cons (pv 3) (pa_cons (pv 5) (pa_cons (pv 6) pa_nil)))) pa_nil))) (pss_one (ps_ret (pe_lst (pa_cons (pe_op op_add (pe_callB call_len_seq (by rfl) T.len (by decide +kernel) (pa_cons (pv 7) pa_nil)) pe_int) pa_nil)))))))))))))), bodyD (B := rm H ea) (R := RDeed A tp g ea (lg zs) (.issue d b)) (s_set (e_num0 (ns := []) (ev_var rfl) hn) fun v H1 s1 hv => ?_) k⟩
    cases hv
    refine s_set (e_refusal (b := EditSpec.isDay d) ((e_isDay (ev_var rfl)).is (congrArg V.bl (isDay_eq d))) (ev_var rfl) (hbb.mono s1)) fun v H2 s2 hv => ?_
    have s12 := s1.trans s2
    rcases issue_cases (lg zs) d b with ⟨n0, a, i1, i2⟩ | ⟨n0, hday, s, hs, hl, i1⟩
    · refine s_when (et_test (e_gt (e_lenRI (vR hv (Same.refl _) rfl)) ev_c)) (fun c1 => s_ret (rm_same.trans s12) ?_) fun c1 => ?_
      · exact e_stay (a := a) (by rw [i2]; exact vR hv (Same.refl _) rfl) (by rw [st, i1]) (hL.mono s12) gd
      · have := of_decide_eq_false c1
        omega
    · refine s_when (et_test (e_gt (e_lenRI (vR hv (Same.refl _) rfl)) ev_c)) (fun c1 => ?_) fun c1 => ?_
      · have := of_decide_eq_true c1
        omega
      · have ok := read_ok hs
        refine s_when (et_B (e_isFull (ev_var rfl) (hL.mono s12).p)) (fun c3 => s_ret (rm_same.trans s12) ?_) fun c3 => ?_
        · exact e_stay1 ev_c (by rw [st, i1, if_pos (by rw [ll]; exact of_decide_eq_true c3)]) (hL.mono s12) gd
        · have c3' : ¬ 400 ≤ (lg zs).length := by rw [ll]; exact of_decide_eq_false c3
          rw [if_neg c3'] at i1
          refine s_set (vSheet (vRow0 (ev_var rfl) (hbb.mono s12)) hl hs) fun v5 H3 s3 hsv => ?_
          have s13 := s12.trans s3
          have gon := gu.on s
          have golen := gon.len
          have hE3 : Ents A H3 [] zs := by obtain ⟨_, _, _, h⟩ := (hL.mono s13).p; exact h
          refine s_set (Ra := RLandX A H3 zs (LsEdit.onSheet (LsEdit.landOf (lg zs)) s)) (e_featOnX (((e_landOfX (d := 99999) (ev_var rfl) ev_c (hL.mono s13).p gd)).imp fun v H4 _ h => by rw [upTo_all gd] at h; exact h) hE3 (fun H4 s4 => vR hsv s4 rfl) gu.ris (by have := gu.len; omega) gu.all ok.1) fun v6 H4 s4 hlvX => ?_
          have hlv : RLand A (LsEdit.onSheet (LsEdit.landOf (lg zs)) s) v6 H4 := landX_land s4 hE3 hlvX
          have s14 := s13.trans s4
          refine s_set ((e_editionsF (d := 99999) (ev_var rfl) (vR hsv s4 rfl) ev_c (hL.mono s14).p gd).imp fun v H3 _ h => by rw [upTo_all gd] at h; exact h) fun v7 H5 s5 hevF => ?_
          have hev := hevF.1
          have s15 := s14.trans s5
          have el : (LsEdit.editions (lg zs) s).length ≤ 400 := Nat.le_trans eds_len gd.len
          refine s_when (b := (LsEdit.editions (lg zs) s).getLast?.any fun (e : LsEdit.Edition) => e.land == LsEdit.onSheet (LsEdit.landOf (lg zs)) s) ?_ (fun c4 => s_ret (rm_same.trans s15) ?_) fun c4 => ?_
          · by_cases e0 : LsEdit.editions (lg zs) s = []
            · refine (et_and (b := true) (et_test (e_gt (e_lenL (vR hev (Same.refl _) rfl)) ev_c)) fun z => ?_).is ?_
              · rw [e0] at z; simp at z
              · rw [e0]; rfl
            · obtain ⟨x, hx⟩ : ∃ x, (LsEdit.editions (lg zs) s).getLast? = some x := ⟨_, List.getLast?_eq_some_getLast e0⟩
              have gx := gd.ed (List.mem_of_getLast? hx)
              have gxl := gx.len
              have pos := List.length_pos_iff.mpr e0
              rw [hx]
              refine (et_and (et_test (e_gt (e_lenL (vR hev (Same.refl _) rfl)) ev_c)) fun z => et_test (e_eq (e_lenL (e_changes (e_featR T (e_ixLast (vR hev (Same.refl _) rfl) hx)) (fun H6 s6 => vR hlv (s5.trans s6) rfl) gx.ris gon.ris (by omega) (by omega))) ev_c)).is ?_
              rw [decide_eq_true (by omega), Bool.true_and]
              show _ = (x.land == LsEdit.onSheet (LsEdit.landOf (lg zs)) s)
              rw [Bool.eq_iff_iff, decide_eq_true_eq, beq_iff_eq, ← La.changed_nil gx.ris gon.ris]; omega
          · exact e_stay1 ev_c (by rw [st, i1, if_pos c4]) (hL.mono s15) gd
          · rw [if_neg (by rw [c4]; decide), enter_eq, if_neg c3'] at i1
            refine s_when (et_test (e_lt (ev_var rfl) (e_lastDay (ev_var rfl) (hL.mono s15).p))) (fun c5 => s_ret (rm_same.trans s15) ?_) fun c5 => ?_
            · have c5' : (d : Int) < (LsEdit.lastDay (lg zs) : Nat) := of_decide_eq_true c5
              exact e_stay1 ev_c (by rw [st, i1, if_pos (by omega)]) (hL.mono s15) gd
            · have c5' : ¬ (d : Int) < (LsEdit.lastDay (lg zs) : Nat) := of_decide_eq_false c5
              rw [if_neg (by omega)] at i1
              obtain ⟨sa, rfl, hsa⟩ := hsv
              obtain ⟨fa, fps, rfl, hfk, hfX⟩ := hlvX
              refine s_enter (hL.mono s15) (by omega) (ev_var rfl) (e_mk (S := isA [.int d, .ref sa, .ref fa]) (ea_v3 rfl rfl rfl) (fun vs H1 h => by cases h; rfl) fun _ _ _ _ h => h) fun v H6 H7 s6 hv s7 h7 => ?_
              obtain ⟨x, dx, ws, rfl, hws, hx⟩ := hv
              cases hws
              have s16 := s15.trans s6
              have hL6 := hL.mono s16
              obtain ⟨_, tn, _, hea, htp, _, hE6⟩ := id hL6
              have hsa6 := (hsa.mono s4).mono (s5.trans s6)
              have hsa6' : H6 sa = some (.tup (s.map fun (d : Nat) => V.int d)) := hsa6
              have hfk6 := (s5.trans s6) _ _ hfk
              obtain ⟨_, _, _, _, _, _, hE0⟩ := id hL
              have hF6 := (hfX (rm2 H ea tp) (rm2_same.trans s13) hE0).mono (rm2_mono s16)
              obtain ⟨p7, us7, e71, e72, e73⟩ : ∃ p7 us7, v7 = .ref p7 ∧ H7 p7 = some (.lst us7) ∧ us7.length = (LsEdit.editions (lg zs) s).length := by
                obtain ⟨⟨p7, rfl, us7, u1, u2⟩, p8, e8, u3⟩ := hevF
                cases e8
                have hea4 : H4 ea = some (.lst (zs.map fun z => V.ref z.2)) := by obtain ⟨_, _, h, _⟩ := (hL.mono s14).p; exact h
                exact ⟨p7, us7, rfl, s7 _ _ (rm_ne (s6 _ _ u1) fun z => by rw [z, hea4] at u3; cases u3), u2.len⟩
              subst e71
              have e9 : (((LsEdit.editions (lg zs) s).length : Int) + 1) = (((LsEdit.editions (lg zs) s).length + 1 : Nat) : Int) := by omega
              refine s_ret ((rm_mono s16).trans s7) (e_done (n := (((LsEdit.editions (lg zs) s).length + 1 : Nat) : Int)) (x := x) (e := ⟨d, .issue s⟩) ((e_add ((e_lenS (ev_var rfl) e72).is (congrArg (fun n : Nat => V.int n) e73)) ev_c).is (congrArg V.int e9)) (log_entered hL s16 s7 h7 ⟨dx, sa, fa, rm2_ne hx (ne_of hx hea (by intro z; cases z)) (ne_of hx htp (by intro z; cases z)), rm2_ne hsa6' (ne_of hsa6' hea (by intro z; cases z)) (ne_of hsa6' htp (by intro z; cases z)), ?_⟩) (by rw [st, i1]) (gd.app (by omega) (isDay_le hday) (by show _ ≤ d; omega) ok gd.size))
              exact ⟨fps, rm2_ne hfk6 (ne_of hfk6 hea (by intro z; cases z)) (ne_of hfk6 htp (by intro z; cases z)), hF6⟩
end
end Wk
end
/-! ### WDeed3 -/
section
set_option Elab.async false
set_option linter.all false
set_option maxRecDepth 100000
set_option maxHeartbeats 2000000
namespace Wk
open PySem PySem.Spec PyProof.Rows L2
open LsGeo (Pt)
open LsRefs (Sheet)
open LsText (Bytes)
open LsLand (Feature Land)
open LsEdit (Log What)
theorem apart_zip : ∀ ps : List Pt, ((ps.zip (ps.drop 1)).all fun w => !decide (w.1 = w.2)) = LsGeo.apart ps
  | [] => rfl
  | [_] => rfl
  | a :: b :: r => by
    show (!decide (a = b) && (((b :: r).zip ((b :: r).drop 1)).all fun w => !decide (w.1 = w.2))) = (a != b && LsGeo.apart (b :: r))
    rw [apart_zip (b :: r)]
    have e : (!decide (a = b)) = (a != b) := by rw [Bool.eq_iff_iff, bne_iff_ne]; simp
    rw [e]
theorem leftwards_mem {ps : List Pt} {p : Pt} (h : p ∈ LsBook.leftwards ps) : p ∈ ps := by
  unfold LsBook.leftwards at h
  split at h
  · exact h
  · cases ps with
    | nil => cases h
    | cons a r => simpa using h
theorem leftwards_len (ps : List Pt) : (LsBook.leftwards ps).length = ps.length := by
  unfold LsBook.leftwards
  split
  · rfl
  · cases ps with
    | nil => rfl
    | cons a r => simp
theorem shape_kept {kind : Nat} {ps : List Pt} (hb : ∀ p ∈ ps, Ge.inB p) (hk : kind ≤ 2) : (keptP kind ps = none ∧ EditSpec.shapeOf kind ps = none) ∨ ∃ s, keptP kind ps = some s.places ∧ EditSpec.shapeOf kind ps = some s ∧ EditSpec.kindOf s = kind ∧ Ge.okS s ∧ s.places.length = ps.length ∧ ∀ p ∈ s.places, p ∈ ps := by
  unfold keptP EditSpec.shapeOf
  by_cases k0 : kind = 0
  · subst k0
    simp only [if_true]
    match ps with
    | [] => left; exact ⟨rfl, rfl⟩
    | [p] => right; exact ⟨.spot p, rfl, rfl, rfl, True.intro, rfl, fun q h => h⟩
    | a :: b :: r => left; exact ⟨if_neg (by simp), rfl⟩
  · rw [if_neg k0, if_neg k0]
    by_cases k1 : kind = 1
    · subst k1
      simp only [if_true]
      have e : isLineP ps = (decide (2 ≤ ps.length) && LsGeo.apart ps) := by unfold isLineP; rw [apart_zip]
      by_cases c : 2 ≤ ps.length ∧ LsGeo.apart ps = true
      · right
        rw [if_pos (by rw [e, c.2, decide_eq_true c.1]; rfl), if_pos c]
        exact ⟨.line ps, rfl, rfl, rfl, c.1, rfl, fun q h => h⟩
      · left
        rw [if_neg (by rw [e, Bool.and_eq_true, decide_eq_true_eq]; exact c), if_neg c]
        exact ⟨rfl, rfl⟩
    · rw [if_neg k1, if_neg k1, Ge.simple_eq hb]
      have k2 : kind = 2 := by omega
      subst k2
      by_cases c : LsGeo.simple ps = true
      · right
        rw [if_pos c, if_pos c]
        refine ⟨.area (LsBook.leftwards ps), rfl, rfl, rfl, ?_, leftwards_len ps, fun q h => leftwards_mem h⟩
        have l3 : 3 ≤ ps.length := by
          unfold LsGeo.simple at c
          simp only [Bool.and_eq_true, decide_eq_true_eq] at c
          exact c.1
        intro z
        have := leftwards_len ps
        rw [z] at this
        simp at this; omega
      · left
        rw [if_neg c, if_neg c]; exact ⟨rfl, rfl⟩
theorem pairs_odd : ∀ xs : List Nat, xs.length % 2 = 1 → EditSpec.pairs xs = none
  | [], h => by simp at h
  | [_], _ => rfl
  | x :: y :: r, h => by
    have := pairs_odd r (by simp at h; omega)
    show (EditSpec.pairs r).map _ = none
    rw [this]; rfl
theorem pairs_even : ∀ xs : List Nat, xs.length % 2 = 0 → ∃ ps, EditSpec.pairs xs = some ps ∧ xs.length = 2 * ps.length ∧ ∀ (i : Nat) p, ps[i]? = some p → ∃ x y, xs[2 * i]? = some x ∧ xs[2 * i + 1]? = some y ∧ p = ⟨(x : Int), (y : Int)⟩
  | [], _ => ⟨[], rfl, rfl, fun i p h => by simp at h⟩
  | [_], h => by simp at h
  | x :: y :: r, h => by
    obtain ⟨ps, h1, h2, h3⟩ := pairs_even r (by simp at h; omega)
    refine ⟨⟨(x : Int), (y : Int)⟩ :: ps, ?_, by simp; omega, fun i p hp => ?_⟩
    · show (EditSpec.pairs r).map _ = _
      rw [h1]; rfl
    · cases i with
      | zero => simp at hp; exact ⟨x, y, rfl, rfl, hp.symm⟩
      | succ i =>
        obtain ⟨a, b, h4, h5, h6⟩ := h3 i p (by simpa using hp)
        refine ⟨a, b, ?_, ?_, h6⟩
        · rw [show 2 * (i + 1) = 2 * i + 1 + 1 by omega]; simpa using h4
        · rw [show 2 * (i + 1) + 1 = 2 * i + 1 + 1 + 1 by omega]; simpa using h5
theorem rng2 {n : Nat} (hn : n ≤ 1000000) : RgC 0 ((2 * n : Nat) : Int) 2 n := by
  have e : Builtin.Range.rangeSize 0 ((2 * n : Nat) : Int) 2 = (n : Int) := by
    unfold Builtin.Range.rangeSize
    rw [if_pos (by decide)]
    split <;> omega
  refine ⟨by decide, by decide, ?_, e⟩
  unfold Builtin.Range.small
  rw [e, if_pos (by decide)]
  unfold Builtin.Range.rangeFitsLong
  simp only [Bool.and_eq_true, Bool.or_eq_true, decide_eq_true_eq, beq_iff_eq]
  omega
theorem nats_natI : ∀ {r : List Int} {xs : List Nat}, LsRows.nats? r = some xs → r = natI xs
  | [], xs, h => by
    unfold LsRows.nats? at h
    simp at h; subst h; rfl
  | a :: r, xs, h => by
    unfold LsRows.nats? at h
    rw [List.mapM_cons] at h
    cases ha : LsRows.nat? a with
    | none => rw [ha] at h; cases h
    | some n =>
      rw [ha] at h
      cases hr : List.mapM LsRows.nat? r with
      | none => rw [hr] at h; cases h
      | some ys =>
        rw [hr] at h
        cases h
        rw [nats_natI (r := r) (xs := ys) hr]
        unfold LsRows.nat? at ha
        split at ha
        · cases ha
          show a :: natI ys = ((a.toNat : Nat) : Int) :: natI ys
          congr 1; omega
        · cases ha
theorem put_cases (l : Log) (d n k : Nat) (name : Bytes) (kind : Nat) (xs : List Nat) (hl : name.length ≤ 40) : (((!inBnd d n k kind) || ((!name.all LsText.isShown) || !placesOk xs)) = true ∧ EditSpec.putIn l d n k name kind xs = (l, LsAns.says (-1))) ∨
    (((!inBnd d n k kind) || ((!name.all LsText.isShown) || !placesOk xs)) = false ∧ ∃ ps, EditSpec.pairs xs = some ps ∧ xs.length = 2 * ps.length ∧ ps.length ≤ 64 ∧ (∀ x ∈ xs, x ≤ 999999) ∧ EditSpec.isDay d = true ∧ EditSpec.isNumber n = true ∧ k ≤ 31 ∧ kind ≤ 2 ∧
      EditSpec.putIn l d n k name kind xs = (if (LsLand.find (LsEdit.landOf l) n).isSome = false ∧ 200 ≤ (LsEdit.landOf l).length then (l, LsAns.says (-7)) else match EditSpec.shapeOf kind ps with
      | none => if 400 ≤ l.length then (l, LsAns.says (-7)) else (l, LsAns.says (-5))
      | some s => EditSpec.enter l d (.put ⟨n, k, name, s⟩) (LsAns.says (if (LsLand.find (LsEdit.landOf l) n).isSome = true then 1 else 0)))) := by
  have e0 : ¬ LsText.QUOTED < name.length := by unfold LsText.QUOTED; omega
  by_cases od : xs.length % 2 = 1
  · left
    refine ⟨?_, ?_⟩
    · have : placesOk xs = false := by unfold placesOk; rw [decide_eq_false (by omega)]; rfl
      rw [this]; simp
    · unfold EditSpec.putIn
      rw [if_neg e0, pairs_odd xs od]
  · obtain ⟨ps, h1, h2, h3⟩ := pairs_even xs (by omega)
    have pe : placesOk xs = (decide (ps.length ≤ 64) && xs.all EditSpec.on) := by
      unfold placesOk
      rw [decide_eq_true (show xs.length % 2 = 0 by omega), Bool.true_and, show decide (xs.length ≤ 128) = decide (ps.length ≤ 64) from decide_eq_decide.mpr (by omega)]
    by_cases c : EditSpec.isDay d = false ∨ EditSpec.isNumber n = false ∨ LsLand.CLASSES ≤ k ∨ 2 < kind ∨ name.all LsText.isShown = false ∨ xs.all EditSpec.on = false ∨ LsGeo.PLACES < ps.length
    · left
      refine ⟨?_, ?_⟩
      · rw [pe]
        unfold inBnd
        unfold LsLand.CLASSES LsGeo.PLACES at c
        rcases c with c | c | c | c | c | c | c
        · rw [c]; simp
        · rw [c]; simp
        · rw [decide_eq_false (show ¬ k ≤ 31 by omega)]; simp
        · rw [decide_eq_false (show ¬ kind ≤ 2 by omega)]; simp
        · rw [c]; simp
        · rw [c]; simp
        · rw [decide_eq_false (show ¬ ps.length ≤ 64 by omega)]; simp
      · unfold EditSpec.putIn
        rw [if_neg e0, h1]
        simp only
        rw [if_pos c]
    · right
      have cc := c
      simp only [not_or, Bool.not_eq_false] at c
      obtain ⟨c1, c2, c3, c4, c5, c6, c7⟩ := c
      unfold LsLand.CLASSES at c3
      unfold LsGeo.PLACES at c7
      refine ⟨?_, ps, h1, h2, by omega, fun x hx => ?_, c1, c2, by omega, by omega, ?_⟩
      · rw [pe]
        unfold inBnd
        rw [c1, c2, c5, c6, decide_eq_true (show k ≤ 31 by omega), decide_eq_true (show kind ≤ 2 by omega), decide_eq_true (show ps.length ≤ 64 by omega)]
        rfl
      · rw [List.all_eq_true] at c6
        have := c6 x hx
        unfold EditSpec.on at this
        exact of_decide_eq_true this
      · unfold EditSpec.putIn
        rw [if_neg e0, h1]
        simp only
        rw [if_neg cc]
        rfl
section
variable {P : Program} {w : World} {K : PySem.W.Frag} {mg : Str → Option Value} {base : Heap} {A : Ad} {σ : L2.St} {H B : Hp} {ta tb te to td ty tv tl : TE} {u : TS} {R Ra : RR} {N : L2.St → Hp → Prop} {L : Land} {z : En} {c : Sheet} {x : LsEdit.Edition}
theorem _root_.Wk.EvA.impA {ta : TA} {S S2 : List V → Hp → Prop} (h : EvA ta σ H S) (k : ∀ vs H1, Same H H1 → S vs H1 → S2 vs H1) : EvA ta σ H S2 := fun H1 a Q q => h H1 a Q fun v H2 e hr => q v H2 e (k v H2 (a.trans e) hr)
/-- a feature that was just made: its name's list is na -/
def RFm (A : Ad) (cls : Int) (na : Addr) (kind : Int) (ps : List Pt) : RR := fun v H => ∃ a dx pa ba, v = .ref a ∧ H a = some (.ins A.aFeature dx (ftF cls na kind pa ba)) ∧ LstAt RPt H pa ps ∧ GAt H ba (boxP ps)
instance (A : Ad) (cls : Int) (na : Addr) (kind : Int) (ps : List Pt) : Mono (RFm A cls na kind ps) := ⟨fun e ⟨a, dx, pa, ba, h1, h2, h3, h4⟩ => ⟨a, dx, pa, ba, h1, e _ _ h2, h3.mono e, h4.mono e⟩⟩
theorem e_mkFt {E : XK} {ta : TA} {cls : Int} {na : Addr} {kind : Int} {ps : List Pt} (h : EvA ta σ H (fun vs H1 => ∃ pa, vs = [.int cls, .ref na, .int kind, .ref pa] ∧ LstAt RPt H1 pa ps)) (hl : ps.length ≤ 1000) (hne : ps ≠ []) : EvP (tMake A.aFeature (sp_Feature_init K A) [] E ta) σ H (RFm A cls na kind ps) := fun H1 e Q q =>
  h H1 e _ fun ws H2 e2 hS x dx hx hdx hne2 => by
    rw [List.append_nil]
    obtain ⟨pa, rfl, hP⟩ := hS
    have sm0 : Same H2 (upd (upd H2 dx (.own x)) x (.ins A.aFeature dx [])) := fun b u hb => by
      rw [upd_ne (ne_of_none hb hx), upd_ne (ne_of_none hb hdx)]; exact hb
    refine ⟨x, dx, cls, na, kind, pa, ps, rfl, upd_same, hP.mono sm0, hl, hne, fun H' ba s' h' hb => ⟨rfl, ?_⟩⟩
    have sm : Same H2 H' := fun b u hb => s' _ _ (rm_ne (sm0 _ _ hb) (ne_of_none hb hx))
    exact q _ H' (e2.trans sm) ⟨x, dx, pa, ba, rfl, h', hP.mono sm, hb⟩
def sp_put (K : PySem.W.Frag) (A : Ad) : Sp := spDeed (fun ns rs => match ns, rs with
  | [d, n, k, h], [l, t] => (LsRows.text? t).bind fun t => (LsRows.nats? l).map fun l => .put d n k t h l
  | _, _ => none) A
theorem ok_put (T : Txt K mg A) (c_Feature : C8.Mak P w K mg base 2 "Feature" A.aFeature (sp_Feature_init K A) []) (c_Logbook_enter : C8.Met P w K mg base 1 A.aLogbook "enter" (sp_Logbook_enter K A) []) (c_Logbook_is_full : C8.Met P w K mg base 1 A.aLogbook "is_full" (sp_Logbook_is_full K A) []) (c_Logbook_land_of : C8.Met P w K mg base 2 A.aLogbook "land_of" (sp_Logbook_land_of K A) []) (c_Logbook_last_day : C8.Met P w K mg base 1 A.aLogbook "last_day" (sp_Logbook_last_day K A) []) (c_Put : C8.Mak P w K mg base 1 "Put" A.aPut (sp_Put_init K A) []) (c_are_places : C8.Cal P w K mg base 1 "are_places" (sp_are_places K A) []) (c_is_name : C8.Cal P w K mg base 1 "is_name" (sp_is_name K A) []) (c_kept_places : C8.Cal P w K mg base 6 "kept_places" (sp_kept_places K A) []) (c_put_in_bounds : C8.Cal P w K mg base 2 "put_in_bounds" (sp_put_in_bounds K A) []) {f : Addr} {fd : FuncData} (F : C8.Def K mg "put" s_put f fd) (bb : Binds K fd ["log", "numbers", "rows"] []) : C8.Cal P w K mg base 7 "put" (sp_put K A) [] := by
  refine C8.cal0 F bb .nil sc_put (fun vs H Q E h => ?_) (fun cdv Ar outer s H vs Q E hr h => ?_)
  · obtain ⟨tp, g, ea, na, ra, zs, ns, rs, q, rfl, _⟩ := h
    rfl
  · obtain ⟨tp, g, ea, na, ra, zs, ns, rs, q, rfl, hL, gd, hn, hrw, hF, k⟩ := h
    obtain ⟨d, n, kk, kd, l0, t0, rfl, rfl⟩ : ∃ d n k h l t, ns = [d, n, k, h] ∧ rs = [l, t] := by
      match ns, rs, hF with
      | [d, n, k, h], [l, t], _ => exact ⟨d, n, k, h, l, t, rfl, rfl⟩
    obtain ⟨name, hnm, hF⟩ := Option.bind_eq_some_iff.mp hF
    obtain ⟨xs, hxs, rfl⟩ := Option.map_eq_some_iff.mp hF
    have e1 := text_nb hnm
    have e2 := nats_natI hxs
    subst e1 e2
    obtain ⟨r0, r1, hra, hr0, hr1⟩ : ∃ r0 r1, rm2 H ea tp ra = some (.lst [.ref r0, .ref r1]) ∧ rm2 H ea tp r0 = some (.lst ((natI xs).map V.int)) ∧ rm2 H ea tp r1 = some (.lst ((nb name).map V.int)) := by
      obtain ⟨vs, h1, h2⟩ := hrw
      cases h2 with
      | cons a b =>
        cases b with
        | cons b c =>
          cases c
          obtain ⟨r0, rfl, h0⟩ := a
          obtain ⟨r1, rfl, h3⟩ := b
          exact ⟨r0, r1, h1, ints_iff.mp h0, ints_iff.mp h3⟩
    have gu := gd.land
    have zl := lq_size gd
    have ll := lg_len zs
    have gul := gu.len
    have st : EditSpec.step (lg zs) (.put d n kk name kd xs) = EditSpec.putIn (lg zs) d n kk name kd xs := rfl
    refine ⟨_, (pss_cons (ps_asg (pv 1) (pg_unl rfl (pgs_cons (pg_name (i := 6) sc_put.nd rfl (Or.inl rfl)) (pgs_cons (pg_name (i := 7) sc_put.nd rfl (Or.inl rfl)) (pgs_cons (pg_name (i := 8) sc_put.nd rfl (Or.inl rfl)) (pgs_cons (pg_name (i := 9) sc_put.nd rfl (Or.inl rfl)) pgs_nil)))))) (pss_cons (ps_asg (pv 2) (pg_unl rfl (pgs_cons (pg_name (i := 10) sc_put.nd rfl (Or.inr rfl)) (pgs_cons (pg_name (i := 11) sc_put.nd rfl (Or.inl rfl)) pgs_nil)))) (pss_cons (ps_if (pt_cmpR op_gt (pe_callB call_len_seq (by rfl) T.len (by decide +kernel) (pa_cons (pv 11) pa_nil)) (C8.pe_gc rfl T.g_LONGEST_NAME) (nomark _)) (pss_one (ps_ret (pe_lst (pa_cons (C8.pe_gc rfl T.g_TOO_LONG) pa_nil)))) pss_nil) (pss_cons (ps_if (PW.pt (pw_or (pt_not (pt_val (C8.pe_c c_put_in_bounds hr (by decide) rfl (pa_cons (pv 6) (pa_cons (pv 7) (pa_cons (pv 8) (pa_cons (pv 9) pa_nil))))))) (pw_or (pt_not (pt_val (C8.pe_c c_is_name hr (by decide) rfl (pa_cons (pv 11) pa_nil)))) (pw_or1 (pt_not (pt_val (C8.pe_c c_are_places hr (by decide) rfl (pa_cons (pv 10) pa_nil)))))))) (pss_one (ps_ret (pe_lst (pa_cons (C8.pe_gc rfl T.g_OUT_OF_BOUNDS) pa_nil)))) pss_nil) (pss_cons (ps_set (i := 3) sc_put.nd rfl (Or.inl rfl) (C8.pe_mt c_Logbook_land_of hr (by decide) (pv 0) (pa_cons (C8.pe_gc rfl T.g_LAST_DAY) pa_nil))) (pss_cons (ps_if (PW.pt (pw_or (pt_val (C8.pe_mt0 c_Logbook_is_full hr (by decide) (pv 0))) (pw_or1 (PW.pt (pw_and (pt_cmp (pc_dnotin (hu_of hr) (pv 7) (pv 3))) (pw_and1 (pt_cmpR op_ge (pe_callB call_lenD (by rfl) T.len (by decide +kernel) (pa_cons (pv 3) pa_nil)) (C8.pe_gc rfl T.g_MOST_FEATURES) (nomark _)))))))) (pss_one (ps_ret (pe_lst (pa_cons (C8.pe_gc rfl T.g_FULL) pa_nil)))) pss_nil) (pss_cons (ps_set (i := 4) sc_put.nd rfl (Or.inl rfl) (C8.pe_c c_kept_places hr (by decide) rfl (pa_cons (pv 9) (pa_cons (pe_lc (own := [("at", 12)]) (tt := tYes) rfl sc_put.nd (pi_range3 rfl T.range (pa_cons pe_int (pa_cons (pe_callB call_len_seq (by rfl) T.len (by decide +kernel) (pa_cons (pv 10) pa_nil)) (pa_cons pe_int pa_nil)))) (blkOk_by (own := [("at", 12)]) (N := N_put) (sc := C8.fnScope s_put) (by decide +kernel)) (fun _ _ _ _ _ => (pg_name (i := 12) sc_put.nd rfl (Or.inl rfl))) (fun _ _ _ _ _ => pts_nil) (fun _ _ _ _ _ => (pe_tup (pa_cons (pe_ix (r := rIxL K) ix_list (pv 10) (pv 12) (fun _ _ => rfl)) (pa_cons (pe_ix (r := rIxL K) ix_list (pv 10) (pe_op op_add (pv 12) pe_int) (fun _ _ => rfl)) pa_nil))))) pa_nil)))) (pss_cons (ps_if (PW.pt (pw_or (pt_cmpR op_isN (pv 4) pe_non (nomark _)) (pw_or1 (pt_cmpR op_lt (pv 6) (C8.pe_mt0 c_Logbook_last_day hr (by decide) (pv 0)) (nomark _))))) (pss_one (ps_ret (pe_lst (pa_cons (C8.pe_gc rfl T.g_NOT_NOW) pa_nil)))) pss_nil) (pss_cons (ps_set (i := 5) sc_put.nd rfl (Or.inl rfl) (pe_ifExp (pt_cmp (pc_din (hu_of hr) (pv 7) (pv 3))) pe_int pe_int)) (pss_cons (ps_expr (C8.pe_mt c_Logbook_enter hr (by decide) (pv 0) (pa_cons (C8.pe_mk c_Put hr (by decide) rfl (pa_cons (pv 6) (pa_cons (pv 7) (pa_cons (C8.pe_mk c_Feature hr (by decide) rfl (pa_cons (pv 8) (pa_cons (pv 11) (pa_cons (pv 9) (pa_cons (pv 4) pa_nil))))) (pa_cons (pv 5) pa_nil))))) pa_nil))) (pss_one (ps_ret (pe_lst (pa_cons (pv 5) pa_nil)))))))))))))), bodyD (B := rm H ea) (R := RDeed A tp g ea (lg zs) (.put d n kk name kd xs)) (s_unl4 (ev_var rfl) hn fun H1 s1 => s_unl2 (ev_var rfl) (s1 _ _ (rm2_same _ _ hra)) fun H2 s2 => ?_) k⟩
    have s12 := s1.trans s2
    have h0 := s12 _ _ (rm2_same _ _ hr0)
    have h1 := s12 _ _ (rm2_same _ _ hr1)
    refine s_when (et_test (e_gt (e_lenI (ev_var rfl) h1) ev_c)) (fun c1 => s_ret (rm_same.trans s12) ?_) fun c1 => ?_
    · have c1' := of_decide_eq_true c1
      rw [nb_len] at c1'
      refine e_stay1 ev_c ?_ (hL.mono s12) gd
      rw [st]
      unfold EditSpec.putIn LsText.QUOTED
      rw [if_pos (by omega)]
    · have c1' := of_decide_eq_false c1
      rw [nb_len] at c1'
      have nml : name.length ≤ 40 := by omega
      rcases put_cases (lg zs) d n kk name kd xs nml with ⟨b1, b2⟩ | ⟨b1, ps, p1, p2, p3, p4, p5, p6, p7, p8, b2⟩
      · refine s_when (b := (!inBnd d n kk kd) || ((!name.all LsText.isShown) || !placesOk xs)) (et_or (et_not (et_B (e_callV (ea_v4 rfl rfl rfl rfl) fun H3 e => ⟨d, n, kk, kd, rfl, rfl⟩))) fun _ => et_or (et_not (et_B (e_callV (ea_v1 rfl) fun H3 e => ⟨r1, name, rfl, e _ _ h1, rfl⟩))) fun _ => et_not (et_B (e_callV (ea_v1 rfl) fun H3 e => ⟨r0, xs, rfl, e _ _ h0, rfl⟩))) (fun _ => s_ret (rm_same.trans s12) (e_stay1 ev_c (by rw [st, b2]) (hL.mono s12) gd)) fun z => by rw [b1] at z; cases z
      · refine s_when (b := (!inBnd d n kk kd) || ((!name.all LsText.isShown) || !placesOk xs)) (et_or (et_not (et_B (e_callV (ea_v4 rfl rfl rfl rfl) fun H3 e => ⟨d, n, kk, kd, rfl, rfl⟩))) fun _ => et_or (et_not (et_B (e_callV (ea_v1 rfl) fun H3 e => ⟨r1, name, rfl, e _ _ h1, rfl⟩))) fun _ => et_not (et_B (e_callV (ea_v1 rfl) fun H3 e => ⟨r0, xs, rfl, e _ _ h0, rfl⟩))) (fun z => by rw [b1] at z; cases z) fun _ => ?_
        obtain ⟨qs, q1, q2, q3⟩ := pairs_even xs (by omega)
        rw [p1] at q1; cases q1
        have inb : ∀ p ∈ ps, Ge.inB p := fun p hp => by
          obtain ⟨i, hi⟩ := List.mem_iff_getElem?.mp hp
          obtain ⟨x, y, hx, hy, rfl⟩ := q3 i p hi
          have := p4 x (List.mem_of_getElem? hx)
          have := p4 y (List.mem_of_getElem? hy)
          unfold Ge.inB; simp only; omega
        refine s_set ((e_landOf (d := 99999) (ev_var rfl) ev_c (hL.mono s12).p gd).imp fun v H4 _ h => by rw [upTo_all gd] at h; exact h) fun v3 H3 s3 hlv => ?_
        have s13 := s12.trans s3
        refine s_when (b := decide (400 ≤ zs.length) || ((!(LsLand.find (LsEdit.landOf (lg zs)) n).isSome) && decide (200 ≤ (LsEdit.landOf (lg zs)).length))) (et_or (et_B (e_isFull (ev_var rfl) (hL.mono s13).p)) fun _ => et_and (et_B (e_dnotin (n := n) (ev_var rfl) (vR hlv (Same.refl _) rfl) gu.ris)) fun _ => (et_test (e_ge (e_lenD (vR hlv (Same.refl _) rfl) gu.ris) ev_c)).is (decide_eq_decide.mpr (by omega))) (fun c2 => s_ret (rm_same.trans s13) (e_stay1 ev_c ?_ (hL.mono s13) gd)) fun c2 => ?_
        · rw [st, b2]
          rw [Bool.or_eq_true, decide_eq_true_eq, Bool.and_eq_true, decide_eq_true_eq, Bool.not_eq_true'] at c2
          by_cases c3 : (LsLand.find (LsEdit.landOf (lg zs)) n).isSome = false ∧ 200 ≤ (LsEdit.landOf (lg zs)).length
          · rw [if_pos c3]
          · rw [if_neg c3]
            have full : 400 ≤ (lg zs).length := by
              rcases c2 with c2 | c2
              · omega
              · exact absurd c2 c3
            cases EditSpec.shapeOf kd ps with
            | none => simp only; rw [if_pos full]
            | some s => simp only; rw [enter_eq, if_pos full]
        · rw [Bool.or_eq_false_iff, decide_eq_false_iff_not, Bool.and_eq_false_iff, decide_eq_false_iff_not, Bool.not_eq_false'] at c2
          have nfull : ¬ 400 ≤ (lg zs).length := by omega
          have c3 : ¬ ((LsLand.find (LsEdit.landOf (lg zs)) n).isSome = false ∧ 200 ≤ (LsEdit.landOf (lg zs)).length) := by
            rintro ⟨y1, y2⟩
            rcases c2.2 with y | y
            · rw [y1] at y; cases y
            · exact y y2
          rw [if_neg c3] at b2
          have h03 := s3 _ _ h0
          have bpp : bps ps := fun p hp => inB_bp (inb p hp)
          refine s_set (Ra := RKept (keptP kd ps)) (e_call (ea_cons_var (i := 9) (x := .int kd) rfl (ea_consG (R := RLst RPt ps) ((e_lcRC (lo := 0) (hi := ((2 * ps.length : Nat) : Int)) (c := 2) (n := ps.length) (fun _ => true) (fun i => Ro RPt (ps[i]?)) (ea_cons ev_c (ea_cons ((e_lenI (ev_var rfl) h03).is (congrArg V.int (by unfold natI; rw [List.length_map]; omega))) (ea_cons ev_c ea_nil))) (rng2 (by omega)) (by omega) (fun _ => rfl) (fun _ _ _ _ => et_yes) fun i H4 hi s4 _ => ?_).imp fun v H4 _ r => rlst_all rfl r) fun _ _ => ea_nil)) fun vs H4 e hv => ?_) fun v4 H4 s4 hkv => ?_
          · have gi := List.getElem?_eq_getElem hi
            rw [gi]
            obtain ⟨a, b, y1, y2, y3⟩ := q3 i _ gi
            rw [y3]
            have ga : ((natI xs).map V.int)[2 * i]? = some (.int a) := by unfold natI; rw [List.getElem?_map, List.getElem?_map, y1]; rfl
            have gb : ((natI xs).map V.int)[2 * i + 1]? = some (.int b) := by unfold natI; rw [List.getElem?_map, List.getElem?_map, y2]; rfl
            have z1 : (0 : Int) + (i : Nat) * 2 = ((2 * i : Nat) : Int) := by omega
            rw [z1]
            exact (e_tup (ea_cons (e_ixL (ev_var rfl) (ev_var rfl) (s4 _ _ h03) (atI_nat ga)) (ea_cons (e_ixL (ev_var rfl) (e_add (ev_var rfl) ev_c) (s4 _ _ h03) (atI_nat (j := 2 * i + 1) gb)) ea_nil)) (by show 2 ≤ 1000000; decide)).imp fun v H5 _ h => h
          · obtain ⟨r, rfl, v, r2, rfl, ⟨b, rfl, hb⟩, hr2⟩ := hv
            cases hr2
            exact ⟨kd, b, ps, rfl, hb, by omega, bpp, rfl⟩
          · have s14 := s13.trans s4
            rcases shape_kept inb p8 with ⟨y1, y2⟩ | ⟨s, y1, y2, y3, y4, y5, y6⟩
            · rw [y1] at hkv
              cases hkv
              rw [y2] at b2
              refine s_when (b := true) ((et_or (a := true) (b := true) ((et_test (ev_op (ev_var rfl) ev_c rv_isN)).is (by simp)) fun z => by cases z).is rfl) (fun _ => s_ret (rm_same.trans s14) (e_stay1 ev_c (by rw [st, b2]; simp only; rw [if_neg nfull]) (hL.mono s14) gd)) fun z => by cases z
            · rw [y1] at hkv
              obtain ⟨pa, rfl, hpa⟩ := hkv
              rw [y2] at b2
              simp only at b2
              rw [enter_eq, if_neg nfull] at b2
              have pne := Ge.places_ne y4
              refine s_when (b := decide ((d : Int) < (LsEdit.lastDay (lg zs) : Nat))) ((et_or (b := decide ((d : Int) < (LsEdit.lastDay (lg zs) : Nat))) ((et_test (ev_op (ev_var rfl) ev_c rv_isN)).is (decide_eq_false fun z => by cases z)) fun _ => et_test (e_lt (ev_var rfl) (e_lastDay (ev_var rfl) (hL.mono s14).p))).is (by rw [Bool.false_or])) (fun c4 => s_ret (rm_same.trans s14) (e_stay1 ev_c ?_ (hL.mono s14) gd)) fun c4 => ?_
              · have := of_decide_eq_true c4
                rw [st, b2, if_pos (by omega)]
              · have c4' := of_decide_eq_false c4
                rw [if_neg (by omega)] at b2
                refine s_set (Ra := isV (.int (wasI (LsEdit.landOf (lg zs)) n))) (e_if (et_B (e_din (n := n) (ev_var rfl) (vR hlv s4 rfl) gu.ris)) (fun c5 => ev_c.is ?_) fun c5 => ev_c.is ?_) fun v5 H5 s5 hv5 => ?_
                · unfold wasI; rw [if_pos c5]
                · unfold wasI; rw [if_neg (by rw [c5]; decide)]
                · cases hv5
                  have s15 := s14.trans s5
                  have hpa5 := hpa.mono s5
                  refine s_enter (hL.mono s15) (by omega) (ev_var rfl) (e_mk (S := isK (.int d) (isK (.int n) (isC (RFm A kk r1 kd s.places) (isA [.int (wasI (LsEdit.landOf (lg zs)) n)])))) (ea_cons_var rfl (ea_cons_var rfl (ea_consG (e_mkFt (cls := kk) (na := r1) (kind := kd) (ps := s.places) ((ea_v4 rfl rfl rfl rfl : EvA _ _ _ (isA [.int kk, .ref r1, .int kd, .ref pa])).impA fun vs H6 e h => ⟨pa, h, hpa5.mono e⟩) (by omega) pne) fun _ _ => ea_v1 rfl))) (fun vs H6 h => ?_) fun vs H6 H7 e h => ?_) fun v H6 H7 s6 hv s7 h7 => ?_
                  · obtain ⟨r, rfl, r2, rfl, v, r3, rfl, _, h⟩ := h
                    cases h; rfl
                  · obtain ⟨r, rfl, r2, rfl, v, r3, rfl, h1, h⟩ := h
                    exact ⟨_, rfl, _, rfl, _, _, rfl, Mono.mono e h1, h⟩
                  · obtain ⟨x, dx, ws, rfl, hws, hx⟩ := hv
                    obtain ⟨r, rfl, r2, rfl, v, r3, rfl, ⟨fa, dx2, pa2, ba, rfl, hfa, hpa6, hba⟩, h⟩ := hws
                    cases h
                    have s16 := s15.trans s6
                    have hL6 := hL.mono s16
                    obtain ⟨dxl, tn, l1, hea, htp, hte, l3⟩ := id hL6
                    have pne2 : pa2 ≠ ea := fun z => by
                      obtain ⟨vs, h3, h4⟩ := hpa6
                      rw [z, hea] at h3
                      cases h3
                      cases zs with
                      | nil =>
                        have hl4 := h4.len
                        exact pne (List.eq_nil_of_length_eq_zero hl4.symm)
                      | cons z0 zr =>
                        obtain ⟨C, dx3, fs, hz⟩ := ent_ins (l3.1.mono rm2_same)
                        generalize s.places = L at h4
                        cases h4 with
                        | cons q _ =>
                          obtain ⟨p, e, hp⟩ := q
                          cases e
                          have hp : H6 z0.2 = some (.tup _) := hp
                          rw [hz] at hp; cases hp
                    have pne3 : pa2 ≠ tp := fun z => by
                      obtain ⟨vs, h3, h4⟩ := hpa6
                      rw [z, htp] at h3
                      cases h3
                    have hba' : H6 ba = some (.tup _) := hba
                    have en : (n : Int) = ((⟨n, kk, name, s⟩ : Feature).number : Int) := rfl
                    refine s_ret ((rm_mono s16).trans s7) (e_done (x := x) (e := ⟨d, .put ⟨n, kk, name, s⟩⟩) (n := wasI (LsEdit.landOf (lg zs)) n) (ev_var rfl) (log_entered hL s16 s7 h7 ⟨dx, fa, rm2_ne hx (ne_of hx hea (by intro z; cases z)) (ne_of hx htp (by intro z; cases z)), dx2, r1, pa2, ba, ?_, (rm2_mono s16) _ _ hr1, lst_rm (lst_rm hpa6 hea (fun _ z => by cases z) pne2) (rm_ne htp hte) (fun _ z => by cases z) pne3, rm2_ne hba' (ne_of hba' hea (by intro z; cases z)) (ne_of hba' htp (by intro z; cases z))⟩) ?_ (gd.app (by omega) (isDay_le p5) (by show _ ≤ d; omega) (show goodF _ from ⟨(isNum_le p6).1, (isNum_le p6).2, p7, nml, y4, by show s.places.length ≤ 64; omega, fun p hp => inb p (y6 p hp)⟩) ?_))
                    · show rm2 H6 ea tp fa = some (.ins A.aFeature dx2 (ftF kk r1 (EditSpec.kindOf s) pa2 ba))
                      rw [y3]; exact rm2_ne hfa (ne_of hfa hea (by intro z; cases z)) (ne_of hfa htp (by intro z; cases z))
                    · rw [st, b2]
                      unfold wasI
                      rfl
                    · show (LsLand.put ⟨n, kk, name, s⟩ (LsEdit.landOf (lg zs))).length ≤ 200
                      by_cases th : (LsLand.find (LsEdit.landOf (lg zs)) n).isSome = true
                      · rw [La.put_len_in (f := ⟨n, kk, name, s⟩) gu.ris th]; exact gul
                      · have := La.put_len ⟨n, kk, name, s⟩ (LsEdit.landOf (lg zs))
                        have : ¬ 200 ≤ (LsEdit.landOf (lg zs)).length := fun y => c3 ⟨by simpa using th, y⟩
                        omega
end
end Wk
end
/-! ### WDo -/
section
set_option Elab.async false
set_option linter.all false
set_option maxRecDepth 100000
set_option maxHeartbeats 2000000
namespace Wk
open PySem PySem.Spec PyProof.Rows L2
open LsGeo (Pt)
open LsRefs (Sheet)
open LsText (Bytes)
open LsLand (Feature Land)
open LsEdit (Log What)
/-- a deed does what the call of its number asks -/
def Does (A : Ad) (p : Int) (sp : Sp) : Prop := ∀ (tp g ea na ra : Addr) (zs : List En) (ns : List Nat) (rs : List (List Int)) (q : EditSpec.Call) (H : Hp) (Q : VK) (E : XK), PyWrmprv.shape p = some (ns.length, rs.length) → EditNeutral.callOf ((p :: natI ns) :: rs) = some q → LogQ A tp H g ea zs → GoodL (lg zs) →
  H na = some (.lst ((natI ns).map V.int)) → LstAt RRow (rm2 H ea tp) ra rs → (∀ v H', Same (rm H ea) H' → RDeed A tp g ea (lg zs) q v H' → Q v H') → sp [.ref g, .ref na, .ref ra] H Q E
theorem does_deed {A : Ad} {p : Int} {F : List Nat → List (List Int) → Option EditSpec.Call} (h : ∀ ns rs q, PyWrmprv.shape p = some (ns.length, rs.length) → EditNeutral.callOf ((p :: natI ns) :: rs) = some q → F ns rs = some q) : Does A p (spDeed F A) := fun tp g ea na ra zs ns rs q H Q E hsh hc hL gd hn hr k =>
  ⟨tp, g, ea, na, ra, zs, ns, rs, q, rfl, hL, gd, hn, hr, h ns rs q hsh hc, k⟩
theorem rows_bytes {H : Hp} {ra : Addr} {rs : List (List Int)} {bs : List Bytes} (h : LstAt RRow H ra rs) (e : rs = bs.map nb) : LstAt RBy H ra bs := by
  subst e
  obtain ⟨vs, h1, h2⟩ := h
  refine ⟨vs, h1, ?_⟩
  clear h1
  induction bs generalizing vs with
  | nil => cases h2; exact .nil
  | cons b r ih =>
    cases h2 with
    | cons a c => exact .cons a (ih _ c)
theorem does_tell {A : Ad} {p : Int} {m n : Nat} {F : List Nat → List Bytes → Option EditSpec.Call} (h : ∀ ns rs q, PyWrmprv.shape p = some (ns.length, rs.length) → EditNeutral.callOf ((p :: natI ns) :: rs) = some q → ∃ bs, rs = bs.map nb ∧ ns.length = m ∧ bs.length = n ∧ F ns bs = some q) (hs : ∀ ns bs q, F ns bs = some q → ∀ l, EditSpec.step l q = (l, EditSpec.told l q)) : Does A p (spTell m n F A) := fun tp g ea na ra zs ns rs q H Q E hsh hc hL gd hn hr k => by
  obtain ⟨bs, e1, e2, e3, e4⟩ := h ns rs q hsh hc
  have hst := hs ns bs q e4 (lg zs)
  exact ⟨_, ⟨g, ea, na, ra, zs, ns, bs, q, rfl, hL.p, gd, hn, rows_bytes (hr.mono rm2_same) e1, e2, e3, e4, rfl⟩, fun v H' s hv => k v H' (rm_same.trans s) ⟨zs, hL.mono s, by rw [hst], gd, by rw [hst]; exact hv⟩⟩
theorem nat_nat (n : Nat) : LsRows.nat? (n : Int) = some n := by
  unfold LsRows.nat?
  rw [if_pos (by omega)]; simp
theorem shp {p : Int} {n k : Nat} {ns : List Nat} {rs : List (List Int)} (h : PyWrmprv.shape p = some (ns.length, rs.length)) (e : PyWrmprv.shape p = some (n, k)) : ns.length = n ∧ rs.length = k := by
  rw [e] at h; cases h; exact ⟨rfl, rfl⟩
section
variable {A : Ad} {K : PySem.W.Frag}
theorem does_put : Does A 1 (sp_put K A) := does_deed fun ns rs q hs h => by
  obtain ⟨e1, e2⟩ := shp hs (show PyWrmprv.shape 1 = some (4, 2) from rfl)
  obtain ⟨d, n, k, x, rfl⟩ := len4 e1
  obtain ⟨l, t, rfl⟩ := len2 e2
  have h : (do return .put (← LsRows.nat? d) (← LsRows.nat? n) (← LsRows.nat? k) (← LsRows.text? t) (← LsRows.nat? x) (← LsRows.nats? l) : Option EditSpec.Call) = some q := h
  rw [nat_nat, nat_nat, nat_nat, nat_nat] at h
  cases ht : LsRows.text? t with
  | none => rw [ht] at h; cases h
  | some b =>
    cases hl : LsRows.nats? l with
    | none => rw [ht, hl] at h; cases h
    | some xs =>
      rw [ht, hl] at h
      cases h
      show (LsRows.text? t).bind _ = _
      rw [ht]
      show (LsRows.nats? l).map _ = _
      rw [hl]; rfl
theorem does_out : Does A 2 (sp_take_out K A) := does_deed fun ns rs q hs h => by
  obtain ⟨e1, e2⟩ := shp hs (show PyWrmprv.shape 2 = some (2, 0) from rfl)
  obtain ⟨d, n, rfl⟩ := len2 e1
  have e2 := List.eq_nil_of_length_eq_zero e2
  subst e2
  have h : (do return .out (← LsRows.nat? d) (← LsRows.nat? n) : Option EditSpec.Call) = some q := h
  rw [nat_nat, nat_nat] at h
  exact h
theorem text_map {r : List Int} {c : Bytes} (h : LsRows.text? r = some c) : [r] = [c].map nb := by rw [text_nb h]; rfl
theorem does_issue : Does A 3 (sp_issue K A) := does_deed fun ns rs q hs h => by
  obtain ⟨e1, e2⟩ := shp hs (show PyWrmprv.shape 3 = some (1, 1) from rfl)
  obtain ⟨d, rfl⟩ := len1 e1
  obtain ⟨r, rfl⟩ := len1 e2
  have h : (do return .issue (← LsRows.nat? d) (← LsRows.text? r) : Option EditSpec.Call) = some q := h
  rw [nat_nat] at h
  cases ht : LsRows.text? r with
  | none => rw [ht] at h; cases h
  | some b =>
    rw [ht] at h
    cases h
    show (LsRows.text? r).map _ = _
    rw [ht]; rfl
theorem does_undo : Does A 4 (sp_undo K A) := does_deed fun ns rs q hs h => by
  obtain ⟨e1, e2⟩ := shp hs (show PyWrmprv.shape 4 = some (0, 0) from rfl)
  have e1 := List.eq_nil_of_length_eq_zero e1
  have e2 := List.eq_nil_of_length_eq_zero e2
  subst e1 e2
  exact h
theorem does_land : Does A 5 (sp_tell_land K A) := does_tell (fun ns rs q hs h => by
  obtain ⟨e1, e2⟩ := shp hs (show PyWrmprv.shape 5 = some (1, 0) from rfl)
  obtain ⟨d, rfl⟩ := len1 e1
  have e2 := List.eq_nil_of_length_eq_zero e2
  subst e2
  have h : (do return .land (← LsRows.nat? d) : Option EditSpec.Call) = some q := h
  rw [nat_nat] at h
  exact ⟨[], rfl, rfl, rfl, h⟩) fun ns bs q h l => by
    cases ns with
    | nil => cases h
    | cons d r => cases h; rfl
theorem does_feature : Does A 6 (sp_tell_feature K A) := does_tell (fun ns rs q hs h => by
  obtain ⟨e1, e2⟩ := shp hs (show PyWrmprv.shape 6 = some (2, 0) from rfl)
  obtain ⟨d, n, rfl⟩ := len2 e1
  have e2 := List.eq_nil_of_length_eq_zero e2
  subst e2
  have h : (do return .feature (← LsRows.nat? d) (← LsRows.nat? n) : Option EditSpec.Call) = some q := h
  rw [nat_nat, nat_nat] at h
  exact ⟨[], rfl, rfl, rfl, h⟩) fun ns bs q h l => by
    match ns, h with
    | [d, n], h => cases h; rfl
theorem does_text : Does A 7 (sp_tell_text K A) := does_tell (fun ns rs q hs h => by
  obtain ⟨e1, e2⟩ := shp hs (show PyWrmprv.shape 7 = some (1, 1) from rfl)
  obtain ⟨d, rfl⟩ := len1 e1
  obtain ⟨r, rfl⟩ := len1 e2
  have h : (do return .text (← LsRows.text? r) (← LsRows.nat? d) : Option EditSpec.Call) = some q := h
  rw [nat_nat] at h
  cases ht : LsRows.text? r with
  | none => rw [ht] at h; cases h
  | some b =>
    rw [ht] at h
    exact ⟨[b], text_map ht, rfl, rfl, h⟩) fun ns bs q h l => by
    match ns, bs, h with
    | [d], [b], h => cases h; rfl
theorem does_now : Does A 8 (sp_tell_now K A) := does_tell (fun ns rs q hs h => by
  obtain ⟨e1, e2⟩ := shp hs (show PyWrmprv.shape 8 = some (1, 1) from rfl)
  obtain ⟨d, rfl⟩ := len1 e1
  obtain ⟨r, rfl⟩ := len1 e2
  have h : (do return .now (← LsRows.text? r) (← LsRows.nat? d) : Option EditSpec.Call) = some q := h
  rw [nat_nat] at h
  cases ht : LsRows.text? r with
  | none => rw [ht] at h; cases h
  | some b =>
    rw [ht] at h
    exact ⟨[b], text_map ht, rfl, rfl, h⟩) fun ns bs q h l => by
    match ns, bs, h with
    | [d], [b], h => cases h; rfl
theorem does_old : Does A 9 (sp_tell_old K A) := does_tell (fun ns rs q hs h => by
  obtain ⟨e1, e2⟩ := shp hs (show PyWrmprv.shape 9 = some (1, 1) from rfl)
  obtain ⟨d, rfl⟩ := len1 e1
  obtain ⟨r, rfl⟩ := len1 e2
  have h : (do return .old (← LsRows.text? r) (← LsRows.nat? d) : Option EditSpec.Call) = some q := h
  rw [nat_nat] at h
  cases ht : LsRows.text? r with
  | none => rw [ht] at h; cases h
  | some b =>
    rw [ht] at h
    exact ⟨[b], text_map ht, rfl, rfl, h⟩) fun ns bs q h l => by
    match ns, bs, h with
    | [d], [b], h => cases h; rfl
theorem does_olds : Does A 10 (sp_tell_olds K A) := does_tell (fun ns rs q hs h => by
  obtain ⟨e1, e2⟩ := shp hs (show PyWrmprv.shape 10 = some (1, 0) from rfl)
  obtain ⟨d, rfl⟩ := len1 e1
  have e2 := List.eq_nil_of_length_eq_zero e2
  subst e2
  have h : (do return .olds (← LsRows.nat? d) : Option EditSpec.Call) = some q := h
  rw [nat_nat] at h
  exact ⟨[], rfl, rfl, rfl, h⟩) fun ns bs q h l => by
    cases ns with
    | nil => cases h
    | cons d r => cases h; rfl
theorem does_changes : Does A 11 (sp_tell_changes K A) := does_tell (fun ns rs q hs h => by
  obtain ⟨e1, e2⟩ := shp hs (show PyWrmprv.shape 11 = some (1, 1) from rfl)
  obtain ⟨d, rfl⟩ := len1 e1
  obtain ⟨r, rfl⟩ := len1 e2
  have h : (do return .changes (← LsRows.text? r) (← LsRows.nat? d) : Option EditSpec.Call) = some q := h
  rw [nat_nat] at h
  cases ht : LsRows.text? r with
  | none => rw [ht] at h; cases h
  | some b =>
    rw [ht] at h
    exact ⟨[b], text_map ht, rfl, rfl, h⟩) fun ns bs q h l => by
    match ns, bs, h with
    | [d], [b], h => cases h; rfl
theorem does_history : Does A 12 (sp_tell_history K A) := does_tell (fun ns rs q hs h => by
  obtain ⟨e1, e2⟩ := shp hs (show PyWrmprv.shape 12 = some (1, 0) from rfl)
  obtain ⟨d, rfl⟩ := len1 e1
  have e2 := List.eq_nil_of_length_eq_zero e2
  subst e2
  have h : (do return .history (← LsRows.nat? d) : Option EditSpec.Call) = some q := h
  rw [nat_nat] at h
  exact ⟨[], rfl, rfl, rfl, h⟩) fun ns bs q h l => by
    cases ns with
    | nil => cases h
    | cons d r => cases h; rfl
theorem does_editions : Does A 13 (sp_tell_editions K A) := does_tell (fun ns rs q hs h => by
  obtain ⟨e1, e2⟩ := shp hs (show PyWrmprv.shape 13 = some (0, 1) from rfl)
  have e1 := List.eq_nil_of_length_eq_zero e1
  subst e1
  obtain ⟨r, rfl⟩ := len1 e2
  have h : (do return .editions (← LsRows.text? r) : Option EditSpec.Call) = some q := h
  cases ht : LsRows.text? r with
  | none => rw [ht] at h; cases h
  | some b =>
    rw [ht] at h
    exact ⟨[b], text_map ht, rfl, rfl, h⟩) fun ns bs q h l => by
    cases bs with
    | nil => cases h
    | cons d r => cases h; rfl
theorem does_sheets : Does A 14 (sp_tell_sheets K A) := does_tell (fun ns rs q hs h => by
  obtain ⟨e1, e2⟩ := shp hs (show PyWrmprv.shape 14 = some (2, 0) from rfl)
  obtain ⟨d, n, rfl⟩ := len2 e1
  have e2 := List.eq_nil_of_length_eq_zero e2
  subst e2
  have h : (do return .sheets (← LsRows.nat? d) (← LsRows.nat? n) : Option EditSpec.Call) = some q := h
  rw [nat_nat, nat_nat] at h
  exact ⟨[], rfl, rfl, rfl, h⟩) fun ns bs q h l => by
    match ns, h with
    | [d, n], h => cases h; rfl
theorem does_torn : Does A 15 (sp_tell_torn K A) := does_tell (fun ns rs q hs h => by
  obtain ⟨e1, e2⟩ := shp hs (show PyWrmprv.shape 15 = some (0, 2) from rfl)
  have e1 := List.eq_nil_of_length_eq_zero e1
  subst e1
  obtain ⟨r, r2, rfl⟩ := len2 e2
  have h : (do return .torn (← LsRows.text? r) (← LsRows.text? r2) : Option EditSpec.Call) = some q := h
  cases ht : LsRows.text? r with
  | none => rw [ht] at h; cases h
  | some b =>
    cases ht2 : LsRows.text? r2 with
    | none => rw [ht, ht2] at h; cases h
    | some b2 =>
      rw [ht, ht2] at h
      exact ⟨[b, b2], by rw [text_nb ht, text_nb ht2]; rfl, rfl, rfl, h⟩) fun ns bs q h l => by
    match bs, h with
    | [b, b2], h => cases h; rfl
theorem does_last : Does A 16 (sp_tell_last K A) := does_tell (fun ns rs q hs h => by
  obtain ⟨e1, e2⟩ := shp hs (show PyWrmprv.shape 16 = some (0, 0) from rfl)
  have e1 := List.eq_nil_of_length_eq_zero e1
  have e2 := List.eq_nil_of_length_eq_zero e2
  subst e1 e2
  exact ⟨[], rfl, rfl, rfl, h⟩) fun ns bs q h l => by cases h; rfl
end
end Wk
end
/-! ### WAns1 -/
section
set_option Elab.async false
set_option linter.all false
set_option maxRecDepth 100000
set_option maxHeartbeats 2000000
namespace Wk
open PySem PySem.Spec PyProof.Rows L2
open LsGeo (Pt)
open LsRefs (Sheet)
open LsText (Bytes)
open LsLand (Feature Land)
open LsEdit (Log What)
section
variable {P : Program} {w : World} {K : PySem.W.Frag} {mg : Str → Option Value} {base : Heap} {A : Ad} {σ : L2.St} {H B : Hp} {ta tb te to td ty tv tl : TE} {u : TS} {R Ra : RR} {N : L2.St → Hp → Prop}
theorem e_ixQ {p : Addr} {xs : List V} {i : Int} {v : V} (ha : EvP ta σ H (isV (.ref p))) (hb : EvP tb σ H (isV (.int i))) (h : SqL K H p xs) (hi : atI xs i = some v) : EvP (tOp (rIxL K) ta tb) σ H (isV v) := ev_op ha hb (rv_ixL h hi)
theorem e_lenQ {a : Addr} {xs : List V} (ha : EvP ta σ H (isV (.ref a))) (h : SqL K H a xs) : EvP (tCB (fun xs H Q => ∃ p ys, xs = [.ref p] ∧ (SqL K H p ys ∨ SqT K H p ys) ∧ Q (.int ys.length) H) (tCons ta tNil)) σ H (isV (.int xs.length)) :=
  e_cb (ea_cons ha ea_nil) fun vs H1 e hv Q q => by
    cases hv
    exact ⟨a, xs, rfl, .inl (e.sl h), q _ _ (Same.refl _) rfl⟩
theorem e_sl2F {a : Addr} {xs : List V} {i j : Nat} {ti tj : TE} (ha : EvP te σ H (isV (.ref a))) (hi : EvP ti σ H (isV (.int i))) (hj : EvP tj σ H (isV (.int j))) (h : SqL K H a xs) (h1 : i ≤ j) (h2 : j ≤ xs.length) : EvP (tSl (rSlL K) te (tPart ti) (tPart tj)) σ H (isF H ((xs.drop i).take (j - i))) := fun H1 e Q q =>
  ha H1 e _ fun v H2 e2 hv => hi H2 (e.trans e2) _ fun v2 H3 e3 hv2 => by
    cases hv2
    refine ⟨(i : Int), rfl, hj H3 ((e.trans e2).trans e3) _ fun v3 H4 e4 hv3 => ?_⟩
    cases hv3
    cases hv
    refine ⟨(j : Int), rfl, a, xs, rfl, (((e.trans e2).trans e3).trans e4).sl h, fun b hb => q _ _ (((e2.trans e3).trans e4).trans (Same.new hb)) ⟨b, rfl, ?_, (((e.trans e2).trans e3).trans e4).free hb⟩⟩
    rw [upd_same]
    have z : cutV xs (some (i : Int)) (some (j : Int)) = (xs.drop i).take (j - i) := by
      unfold cutV
      rw [HT.sIx_nat, HT.sIx_nat, Nat.min_eq_left h2, Nat.min_eq_left (Nat.le_trans h1 h2)]
    rw [z]
/-- new rows in a new list, and where they end -/
def RRows (B : Hp) (rs : List (List Int)) (at_ : Nat) : RR := fun v H' => ∃ t ra us, v = .ref t ∧ H' t = some (.tup [.ref ra, .int at_]) ∧ B ra = none ∧ H' ra = some (.lst us) ∧ Paired (fun v r => RFr B (RRow r) v H') us rs
def sp_rows_from (K : PySem.W.Frag) (A : Ad) : Sp := pure fun vs H R => ∃ (ca : Addr) (L : List Int) (start k : Nat) (rs : List (List Int)) (rest : List Int), vs = [.ref ca, .int start, .int k] ∧ SqL K H ca (L.map V.int) ∧ L.length ≤ 1000000 ∧ k ≤ 1000 ∧ start ≤ L.length ∧ PyFlat.rows k (L.drop start) = some (rs, rest) ∧ R = RRows H rs (L.length - rest.length)
theorem rows_step {k : Nat} {r : List Int} {rs : List (List Int)} {t : List Int} (h : PyFlat.rows (k + 1) r = some (rs, t)) : ∃ (n : Nat) (r' : List Int) (xs : List (List Int)), r = (n : Int) :: r' ∧ n ≤ r'.length ∧ rs = r'.take n :: xs ∧ PyFlat.rows k (r'.drop n) = some (xs, t) := by
  unfold PyFlat.rows at h
  cases hr : PyFlat.row r with
  | none => rw [hr] at h; cases h
  | some p =>
    rw [hr] at h
    simp only at h
    cases hk : PyFlat.rows k p.2 with
    | none => rw [hk] at h; cases h
    | some z =>
      rw [hk] at h
      simp only [Option.some.injEq, Prod.mk.injEq] at h
      obtain ⟨rfl, rfl⟩ := h
      unfold PyFlat.row at hr
      cases r with
      | nil => cases hr
      | cons n r' =>
        simp only at hr
        split at hr
        · rename_i c
          cases hr
          refine ⟨n.toNat, r', _, by congr 1; omega, c.2, rfl, ?_⟩
          rw [hk]
        · cases hr
theorem rows_len : ∀ {k : Nat} {r : List Int} {rs : List (List Int)} {t : List Int}, PyFlat.rows k r = some (rs, t) → rs.length = k ∧ t.length ≤ r.length ∧ ∃ j, t = r.drop j
  | 0, r, rs, t, h => by unfold PyFlat.rows at h; cases h; exact ⟨rfl, Nat.le_refl _, 0, rfl⟩
  | k + 1, r, rs, t, h => by
    obtain ⟨n, r', xs, rfl, hn, rfl, h2⟩ := rows_step h
    obtain ⟨a, b, j, c⟩ := rows_len h2
    refine ⟨by simp [a], ?_, n + j + 1, ?_⟩
    · rw [List.length_drop] at b; simp; omega
    · rw [c, List.drop_drop]; rfl
theorem ok_rows_from (T : Txt K mg A)  {f : Addr} {fd : FuncData} (F : C8.Def K mg "rows_from" s_rows_from f fd) (bb : Binds K fd ["calls", "start", "many"] []) : C8.Cal P w K mg base 1 "rows_from" (sp_rows_from K A) [] := by
  refine C8.cal0 F bb .nil sc_rows_from (fun vs H Q E h => ?_) (fun cdv Ar outer s H vs Q E hr h => ?_)
  · obtain ⟨R, ⟨ca, L, start, kk, rs, rest, rfl, _⟩, _⟩ := h
    rfl
  · obtain ⟨R, ⟨ca, L, start, kk, rs, rest, rfl, hca, hl, hk, hs, hr, rfl⟩, k⟩ := h
    refine ⟨_, (pss_cons (ps_set (i := 3) sc_rows_from.nd rfl (Or.inl rfl) (pe_lst pa_nil)) (pss_cons (ps_set (i := 4) sc_rows_from.nd rfl (Or.inl rfl) (pv 1)) (pss_cons (ps_for PassesOwn.never rfl (pi_range1 rfl T.range (pa_cons (pv 2) pa_nil)) (pg_name (i := 5) sc_rows_from.nd rfl (Or.inl rfl)) (pss_cons (ps_set (i := 6) sc_rows_from.nd rfl (Or.inl rfl) (pe_op op_add (pe_op op_add (pv 4) pe_int) (pe_ix ix_list (pv 0) (pv 4) (fun _ _ => rfl)))) (pss_cons (ps_expr (pe_bm PySem.F.plainAttrs_list PySem.F.slot_list_append PySem.F.type_list_append mt_append (pv 3) (pa_cons (pe_slice sl_list (pv 0) (po_some (pe_op op_add (pv 4) pe_int)) (po_some (pv 6))) pa_nil))) (pss_one (ps_set (i := 4) sc_rows_from.nd rfl (Or.inl rfl) (pv 6)))))) (pss_one (ps_ret (pe_tup (pa_cons (pv 3) (pa_cons (pv 4) pa_nil)))))))), body (s_newL (Same.refl _) fun p H1 hp0 s1 sB1 hB hp => ?_) k⟩
    refine s_set (ev_var rfl) fun v H2 s2 hv => ?_
    cases hv
    have hp2 := s2 _ _ hp
    obtain ⟨rl, _, _⟩ := rows_len hr
    refine s_seq (M := fun σ' H' => ∃ us v5 v6, σ' = [some (.ref ca), some (.int start), some (.int kk), some (.ref p), some (.int (L.length - rest.length : Nat)), v5, v6] ∧ H' p = some (.lst us) ∧ Paired (fun v r => RFr H (RRow r) v (rm H' p)) us rs) (s_forR (n0 := kk) (s1.trans s2) (ea_v1 rfl) (by omega) (by omega)
      (fun i σ' H' => ∃ us v5 v6, ∃ r : List Int, r.length ≤ L.length ∧ r = L.drop (L.length - r.length) ∧ PyFlat.rows (kk - i) r = some (rs.drop i, rest) ∧ σ' = [some (.ref ca), some (.int start), some (.int kk), some (.ref p), some (.int (L.length - r.length : Nat)), v5, v6] ∧ H' p = some (.lst us) ∧ Paired (fun v r => RFr H (RRow r) v (rm H' p)) us (rs.take i))
      (fun H3 e => ⟨[], _, _, L.drop start, by rw [List.length_drop]; omega, by rw [List.length_drop]; congr 1; omega, hr, by rw [List.length_drop, show L.length - (L.length - start) = start by omega]; rfl, e _ _ hp2, .nil⟩) (fun i σ' H' hi sB q => ?_) fun σ' H' sB q => ?_) fun σ' H' s' hM => ?_
    · obtain ⟨us, v5, v6, r, hrl, hrd, hrr, rfl, hu, hpr⟩ := q
      have ki : kk - i = (kk - (i + 1)) + 1 := by omega
      rw [ki] at hrr
      obtain ⟨n, r', xs, rfl, hn, hx, h2⟩ := rows_step hrr
      have hcaH := sB.sl hca
      rw [List.length_cons] at hrd hrl
      have at0' : L[L.length - (r'.length + 1)]? = some (n : Int) := by
        have := congrArg (fun l : List Int => l[0]?) hrd
        simp only [List.getElem?_cons_zero, List.getElem?_drop, Nat.add_zero] at this
        exact this.symm
      have r'd : r' = L.drop (L.length - r'.length) := by
        have := congrArg (List.drop 1) hrd
        rw [List.drop_drop] at this
        rw [show L.length - (r'.length + 1) + 1 = L.length - r'.length by omega] at this
        exact this
      have gx : (L.map V.int)[L.length - (r'.length + 1)]? = some (.int n) := by rw [List.getElem?_map, at0']; rfl
      refine s_set (Ra := isV (.int (L.length - r'.length + n : Nat))) ((e_add (e_add (ev_var rfl) ev_c) (e_ixQ (ev_var rfl) (ev_var rfl) hcaH (atI_nat gx))).is (congrArg V.int (by rw [List.length_cons]; omega))) fun v H3 s3 hv => ?_
      cases hv
      refine s_app (Ra := isF H3 (((L.map V.int).drop (L.length - r'.length)).take (L.length - r'.length + n - (L.length - r'.length)))) (sB.trans s3) hB (s3 _ _ hu) (ev_var rfl) (e_sl2F (ev_var rfl) ((e_add (ev_var rfl) ev_c).is (congrArg V.int (by rw [List.length_cons]; omega))) (ev_var rfl) (s3.sl hcaH) (by omega) (by rw [List.length_map]; omega)) (by have := hpr.len; rw [List.length_take] at this; omega) fun v H4 s4 hv => ?_
      obtain ⟨b, rfl, hb, hbf⟩ := hv
      have s34 := s3.trans s4
      have rml : rs[i]? = some (r'.take n) := by
        have := congrArg (fun l : List (List Int) => l[0]?) hx
        simpa using this
      refine s_setN ((sB.trans s34).mut hB) (ev_var rfl) fun v H5 s5 hv => ?_
      cases hv
      have bp' : b ≠ p := fun z => by rw [z, s3 _ _ hu] at hbf; cases hbf
      have hrow : H4 b = some (.lst ((r'.take n).map V.int)) := by
        rw [hb, show L.length - r'.length + n - (L.length - r'.length) = n by omega, ← List.map_drop, ← r'd, List.map_take]
      have sr : Same (rm H' p) (rm H5 p) := (rm_of (rm_same.trans s34) rm_at).trans ((fun a u ha => rm_ne (s5 _ _ (by rw [upd_ne (fun z => by rw [z, rm_at] at ha; cases ha)]; exact rm_same _ _ ha)) (fun z => by rw [z, rm_at] at ha; cases ha)) : Same (rm H4 p) (rm H5 p))
      refine ⟨us ++ [.ref b], some (.int i), some (.int (L.length - r'.length + n : Nat)), r'.drop n, by rw [List.length_drop]; omega, ?_, ?_, ?_, s5 _ _ upd_same, ?_⟩
      · rw [List.length_drop, r'd, List.drop_drop, List.length_drop]; congr 1; omega
      · rw [h2]
        have := congrArg (List.drop 1) hx
        rw [List.drop_drop] at this
        rw [show rs.drop (i + 1) = xs from this]
      · rw [List.length_drop, show L.length - r'.length + n = L.length - (r'.length - n) by omega]; rfl
      · have tk : rs.take (i + 1) = rs.take i ++ [r'.take n] := by
          obtain ⟨hi, e⟩ := List.getElem?_eq_some_iff.mp rml
          rw [← List.take_append_getElem hi, e]
        rw [tk]
        refine (hpr.monoP fun v x q => Mono.mono sr q).app (.cons ⟨⟨b, rfl, ints_iff.mpr (rm_ne (s5 _ _ (by rw [upd_ne bp']; exact hrow)) bp')⟩, b, rfl, (sB.trans s3).free hbf⟩ .nil)
    · obtain ⟨us, v5, v6, r, hrl, hrd, hrr, rfl, hu, hpr⟩ := q
      rw [Nat.sub_self] at hrr
      unfold PyFlat.rows at hrr
      simp only [Option.some.injEq, Prod.mk.injEq] at hrr
      obtain ⟨_, rfl⟩ := hrr
      rw [List.take_of_length_le (by omega)] at hpr
      exact ⟨us, _, _, rfl, hu, hpr⟩
    · obtain ⟨us, v5, v6, rfl, hu, hpr⟩ := hM
      refine s_ret s' ((e_tup (vs := [.ref p, .int (L.length - rest.length : Nat)]) (ea_v2 rfl rfl) (by show 2 ≤ 1000000; decide)).imp fun v H5 e h => ?_)
      obtain ⟨t, rfl, ht⟩ := h
      exact ⟨t, p, us, rfl, ht, hB, e _ _ hu, hpr.monoP fun v x q => Mono.mono (rm_same.trans e) q⟩
end
end Wk
end
/-! ### GPlay -/
section
set_option Elab.async false
set_option linter.all false
set_option maxRecDepth 100000
namespace Pl
/-! calls in a row of numbers: plain -/
def sh (p : Int) : Option (Nat × Nat) := PyWrmprv.shape p
theorem call_inv {p : Int} {r : List Int} {c : List (List Int)} {t : List Int} (h : PyFlat.call PyWrmprv.shape (p :: r) = some (c, t)) : ∃ n k xs, PyWrmprv.shape p = some (n, k) ∧ n ≤ r.length ∧ PyFlat.rows k (r.drop n) = some (xs, t) ∧ c = (p :: r.take n) :: xs := by
  unfold PyFlat.call at h
  simp only at h
  cases hs : PyWrmprv.shape p with
  | none => rw [hs] at h; cases h
  | some nk =>
    obtain ⟨n, k⟩ := nk
    rw [hs] at h
    simp only at h
    split at h
    · cases h
    · rename_i c1
      cases hr : PyFlat.rows k (r.drop n) with
      | none => rw [hr] at h; cases h
      | some z =>
        rw [hr] at h
        cases h
        exact ⟨n, k, _, rfl, by omega, hr, rfl⟩
theorem calls_inv {f : Nat} {p : Int} {r : List Int} {cs : List (List (List Int))} (h : PyFlat.calls PyWrmprv.shape f (p :: r) = some cs) : ∃ f' n k xs t cs', PyWrmprv.shape p = some (n, k) ∧ n ≤ r.length ∧ PyFlat.rows k (r.drop n) = some (xs, t) ∧ PyFlat.calls PyWrmprv.shape f' t = some cs' ∧ cs = ((p :: r.take n) :: xs) :: cs' := by
  cases f with
  | zero => cases h
  | succ f =>
    unfold PyFlat.calls at h
    cases hc : PyFlat.call PyWrmprv.shape (p :: r) with
    | none => rw [hc] at h; cases h
    | some ct =>
      obtain ⟨c, t⟩ := ct
      rw [hc] at h
      simp only at h
      cases hk : PyFlat.calls PyWrmprv.shape f t with
      | none => rw [hk] at h; cases h
      | some cs' =>
        rw [hk] at h
        cases h
        obtain ⟨n, k, xs, h1, h2, h3, rfl⟩ := call_inv hc
        exact ⟨f, n, k, xs, t, cs', h1, h2, h3, hk, rfl⟩
theorem calls_nil {f : Nat} {cs : List (List (List Int))} (h : PyFlat.calls PyWrmprv.shape f [] = some cs) : cs = [] := by
  cases f <;> (unfold PyFlat.calls at h; cases h; rfl)
theorem whole_id (c : List (List Int)) : PyWrmprv.whole c = c := by
  unfold PyWrmprv.whole
  split <;> rfl
/-- the words that are calls -/
theorem shape_cases {p : Int} {n k : Nat} (h : PyWrmprv.shape p = some (n, k)) : (p = 1 ∧ n = 4 ∧ k = 2) ∨ (p = 2 ∧ n = 2 ∧ k = 0) ∨ (p = 3 ∧ n = 1 ∧ k = 1) ∨ (p = 4 ∧ n = 0 ∧ k = 0) ∨ (p = 5 ∧ n = 1 ∧ k = 0) ∨ (p = 6 ∧ n = 2 ∧ k = 0) ∨ (p = 7 ∧ n = 1 ∧ k = 1) ∨ (p = 8 ∧ n = 1 ∧ k = 1) ∨ (p = 9 ∧ n = 1 ∧ k = 1) ∨ (p = 10 ∧ n = 1 ∧ k = 0) ∨ (p = 11 ∧ n = 1 ∧ k = 1) ∨ (p = 12 ∧ n = 1 ∧ k = 0) ∨ (p = 13 ∧ n = 0 ∧ k = 1) ∨ (p = 14 ∧ n = 2 ∧ k = 0) ∨ (p = 15 ∧ n = 0 ∧ k = 2) ∨ (p = 16 ∧ n = 0 ∧ k = 0) := by
  by_cases e1 : p = 1
  · subst e1
    have h' : some (4, 2) = some (n, k) := h
    cases h'; simp
  by_cases e2 : p = 2
  · subst e2
    have h' : some (2, 0) = some (n, k) := h
    cases h'; simp
  by_cases e3 : p = 3
  · subst e3
    have h' : some (1, 1) = some (n, k) := h
    cases h'; simp
  by_cases e4 : p = 4
  · subst e4
    have h' : some (0, 0) = some (n, k) := h
    cases h'; simp
  by_cases e5 : p = 5
  · subst e5
    have h' : some (1, 0) = some (n, k) := h
    cases h'; simp
  by_cases e6 : p = 6
  · subst e6
    have h' : some (2, 0) = some (n, k) := h
    cases h'; simp
  by_cases e7 : p = 7
  · subst e7
    have h' : some (1, 1) = some (n, k) := h
    cases h'; simp
  by_cases e8 : p = 8
  · subst e8
    have h' : some (1, 1) = some (n, k) := h
    cases h'; simp
  by_cases e9 : p = 9
  · subst e9
    have h' : some (1, 1) = some (n, k) := h
    cases h'; simp
  by_cases e10 : p = 10
  · subst e10
    have h' : some (1, 0) = some (n, k) := h
    cases h'; simp
  by_cases e11 : p = 11
  · subst e11
    have h' : some (1, 1) = some (n, k) := h
    cases h'; simp
  by_cases e12 : p = 12
  · subst e12
    have h' : some (1, 0) = some (n, k) := h
    cases h'; simp
  by_cases e13 : p = 13
  · subst e13
    have h' : some (0, 1) = some (n, k) := h
    cases h'; simp
  by_cases e14 : p = 14
  · subst e14
    have h' : some (2, 0) = some (n, k) := h
    cases h'; simp
  by_cases e15 : p = 15
  · subst e15
    have h' : some (0, 2) = some (n, k) := h
    cases h'; simp
  by_cases e16 : p = 16
  · subst e16
    have h' : some (0, 0) = some (n, k) := h
    cases h'; simp
  unfold PyWrmprv.shape at h
  rw [if_neg e1, if_neg e2, if_neg e3, if_neg e4, if_neg e5, if_neg e6, if_neg e7, if_neg e8, if_neg e9, if_neg e10, if_neg e11, if_neg e12, if_neg e13, if_neg e14, if_neg e15, if_neg e16] at h
  cases h
end Pl
end
/-! ### WAns2 -/
section
set_option Elab.async false
set_option linter.all false
set_option maxRecDepth 100000
set_option maxHeartbeats 2000000
namespace Pl
/-! what's asked of the calls, call by call -/
def OkC (cs : List (List (List Int))) : Prop := ∀ c ∈ cs, PyInside.call PyWrmprv.bound c = true ∧ (EditNeutral.callOf c).isSome = true
theorem each_nat : ∀ (bs : List (Int × Int)) (xs : List Int), (bs.all fun b => b.1 == 0) = true → xs.length ≤ bs.length → PyInside.each bs xs = true → ∀ x ∈ xs, 0 ≤ x
  | _, [], _, _, _, x, h => by cases h
  | [], _ :: _, _, hl, _, _, _ => by simp at hl
  | (lo, hi) :: b, y :: ys, h0, hl, he, x, hx => by
    rw [List.all_cons, Bool.and_eq_true, beq_iff_eq] at h0
    have he' : (PyInside.within lo hi y && PyInside.each b ys) = true := he
    rw [Bool.and_eq_true] at he'
    rcases List.mem_cons.mp hx with e | hx
    · have w : (decide (lo ≤ y) && decide (y ≤ hi)) = true := he'.1
      rw [Bool.and_eq_true, decide_eq_true_eq, decide_eq_true_eq] at w
      have z : lo = 0 := h0.1
      rw [e]; omega
    · exact each_nat b ys h0.2 (by simpa using hl) he'.2 x hx
theorem bound_shape {p : Int} {n k : Nat} (h : PyWrmprv.shape p = some (n, k)) : ((PyWrmprv.bound p).1.all fun b => b.1 == 0) = true ∧ (PyWrmprv.bound p).1.length = n := by
  rcases shape_cases h with ⟨rfl, rfl, rfl⟩ | ⟨rfl, rfl, rfl⟩ | ⟨rfl, rfl, rfl⟩ | ⟨rfl, rfl, rfl⟩ | ⟨rfl, rfl, rfl⟩ | ⟨rfl, rfl, rfl⟩ | ⟨rfl, rfl, rfl⟩ | ⟨rfl, rfl, rfl⟩ | ⟨rfl, rfl, rfl⟩ | ⟨rfl, rfl, rfl⟩ | ⟨rfl, rfl, rfl⟩ | ⟨rfl, rfl, rfl⟩ | ⟨rfl, rfl, rfl⟩ | ⟨rfl, rfl, rfl⟩ | ⟨rfl, rfl, rfl⟩ | ⟨rfl, rfl, rfl⟩ <;> exact ⟨rfl, rfl⟩
theorem nats_of : ∀ {xs : List Int}, (∀ x ∈ xs, 0 ≤ x) → ∃ ns : List Nat, xs = ns.map fun (n : Nat) => (n : Int)
  | [], _ => ⟨[], rfl⟩
  | x :: xs, h => by
    obtain ⟨ns, e⟩ := nats_of fun y hy => h y (List.mem_cons_of_mem _ hy)
    have := h x List.mem_cons_self
    exact ⟨x.toNat :: ns, by rw [List.map_cons, ← e]; congr 1; omega⟩
theorem asked_ok {l : List Int} (h : PyWrmprv.answers_asked l = true) : ∃ cs, PyFlat.calls PyWrmprv.shape l.length l = some cs ∧ OkC cs ∧ PyWrmprv.answers l = PyFlat.told (PyFlat.played EditNeutral.step EditNeutral.start cs) ∧ (PyWrmprv.answers l).length ≤ 10000000 := by
  unfold PyWrmprv.answers_asked at h
  cases hc : PyFlat.calls PyWrmprv.shape l.length l with
  | none => rw [hc] at h; cases h
  | some cs =>
    rw [hc] at h
    simp only [Bool.and_eq_true] at h
    obtain ⟨⟨⟨_, h2⟩, h3⟩, h4⟩ := h
    have em : cs.map PyWrmprv.whole = cs := by
      have : PyWrmprv.whole = id := funext whole_id
      rw [this, List.map_id]
    rw [em] at h3
    refine ⟨cs, rfl, fun c hc' => ⟨?_, ?_⟩, ?_, by simpa [PyFlat.short] using h4⟩
    · exact List.all_eq_true.mp (show (cs.all (PyInside.call PyWrmprv.bound)) = true from h2) c hc'
    · exact List.all_eq_true.mp (show (cs.all fun c => (EditNeutral.callOf c).isSome) = true from h3) c hc'
    · unfold PyWrmprv.answers PyWrmprv.calls
      rw [hc]
      show PyFlat.told (PyFlat.played EditNeutral.step EditNeutral.start (cs.map PyWrmprv.whole)) = _
      rw [em]
theorem told_cons {x : List (List Int)} {cs : List (List (List Int))} {s : EditNeutral.S} {q : EditSpec.Call} (h : EditNeutral.callOf x = some q) : PyFlat.told (PyFlat.played EditNeutral.step s (x :: cs)) = (((LsRows.told (EditSpec.step s q).2).length : Int) :: LsRows.told (EditSpec.step s q).2) ++ PyFlat.told (PyFlat.played EditNeutral.step (EditSpec.step s q).1 cs) := by
  have e : EditNeutral.step s x = ((EditSpec.step s q).1, LsRows.told (EditSpec.step s q).2) := by
    unfold EditNeutral.step; rw [h]
  show PyFlat.told ((EditNeutral.step s x).2 :: PyFlat.played EditNeutral.step (EditNeutral.step s x).1 cs) = _
  rw [e]; rfl
end Pl
namespace Wk
open PySem PySem.Spec PyProof.Rows L2
open LsGeo (Pt)
open LsRefs (Sheet)
open LsText (Bytes)
open LsLand (Feature Land)
open LsEdit (Log What)
section
variable {P : Program} {w : World} {K : PySem.W.Frag} {mg : Str → Option Value} {base : Heap} {A : Ad} {σ : L2.St} {H B : Hp} {ta tb te to td ty tv tl : TE} {t u : TS} {c : TT} {R Ra : RR} {N : L2.St → Hp → Prop}
/-- while: by a word and a measure; the test changes nothing -/
theorem s_while (s : Same B H) (Pv : L2.St → Hp → Prop) (μ : L2.St → Nat) (h0 : ∀ H1, Same H H1 → Pv σ H1)
    (hs : ∀ σ' H', Same B H' → Pv σ' H' → ∃ b, EvT c σ' H' b ∧ (b = true → Run t σ' B H' R (fun σ2 H2 => Pv σ2 H2 ∧ μ σ2 < μ σ')) ∧ (b = false → ∀ H2, Same H' H2 → N σ' H2)) : Run (tWhile c t) σ B H R N := fun H1 e D q n => by
  refine ⟨fun m σ' H' => m = μ σ' ∧ Same B H' ∧ Pv σ' H', ⟨_, rfl, s.trans e, h0 H1 e⟩, ?_⟩
  rintro m σ' H' ⟨rfl, sB, p⟩
  obtain ⟨b, h1, h2, h3⟩ := hs σ' H' sB p
  refine h1 H' (Same.refl _) _ fun H2 e2 => ?_
  cases b with
  | true =>
    refine iteT ⟨fun σ2 H3 => Same B H3 ∧ Pv σ2 H3 ∧ μ σ2 < μ σ', fun σ2 H3 ⟨a, b, c⟩ => ⟨_, c, rfl, a, b⟩, h2 rfl H2 e2 _ q fun σ2 H3 e3 hn => ⟨e3, hn⟩⟩
  | false => exact iteF (n σ' H2 (sB.trans e2) (h3 rfl H2 e2))
theorem e_wix {d : Addr} {kvs : List (Int × V)} {k : Int} {v : V} (hb : EvP tb σ H (isV (.int k))) (h : kvs.lookup k = some v) : EvP (tOp (rWix d kvs) (tC (.ref d)) tb) σ H (isV v) :=
  ev_op ev_c hb fun H1 _ Q q => ⟨k, v, rfl, rfl, h, q _ H1 (Same.refl H1) rfl⟩
/-- the log's things, whatever becomes of its list and of the numbers at tp, which aren't locked -/
def LogU (A : Ad) (tp : Addr) (H : Hp) (g ea : Addr) (zs : List En) : Prop := ∃ dx : Addr, H g = some (.ins A.aLogbook dx [("entries", .ref ea)]) ∧ H ea = some (.lst (zs.map fun z => V.ref z.2)) ∧ tp ≠ ea ∧ tp ≠ g ∧ Ents A (rm2 H ea tp) [] zs
theorem LogU.mono {H H' : Hp} {g ea tp : Addr} {zs : List En} (e : Same H H') (h : LogU A tp H g ea zs) : LogU A tp H' g ea zs := by
  obtain ⟨dx, h1, h2, n1, n2, h3⟩ := h
  exact ⟨dx, e _ _ h1, e _ _ h2, n1, n2, h3.mono (rm2_mono e)⟩
theorem rm2_upd {H : Hp} {ea tp : Addr} {o : HO} : Same (rm2 H ea tp) (rm2 (upd H tp o) ea tp) := fun b u hb => by
  have nt : b ≠ tp := fun z => by
    rw [z] at hb
    have : rm2 H ea tp tp = none := rm_at
    rw [this] at hb; cases hb
  have ne : b ≠ ea := fun z => by
    have h1 := (rm_same (H := rm H ea) (a := tp)) _ _ hb
    rw [z, rm_at] at h1; cases h1
  exact rm2_ne (by rw [upd_ne nt]; exact rm2_same _ _ hb) ne nt
theorem LogU.upd {H : Hp} {g ea tp : Addr} {zs : List En} {o : HO} (h : LogU A tp H g ea zs) : LogU A tp (upd H tp o) g ea zs := by
  obtain ⟨dx, h1, h2, n1, n2, h3⟩ := h
  exact ⟨dx, by rw [upd_ne n2.symm]; exact h1, by rw [upd_ne n1.symm]; exact h2, n1, n2, h3.mono rm2_upd⟩
theorem LogU.lock {H : Hp} {g ea tp : Addr} {zs : List En} {od : Obj} {o : HO} (h : LogU A tp H g ea zs) : LogQ A tp (L2.upd H tp (.frz od o)) g ea zs := by
  obtain ⟨dx, h1, h2, n1, n2, h3⟩ := h
  exact ⟨dx, (od, o), by rw [upd_ne n2.symm]; exact h1, by rw [upd_ne n1.symm]; exact h2, upd_same, n1, h3.mono rm2_upd⟩
theorem LogQ.free {H : Hp} {g ea tp : Addr} {zs : List En} {o : HO} (h : LogQ A tp H g ea zs) : LogU A tp (L2.upd H tp o) g ea zs := by
  obtain ⟨dx, tn, h1, h2, h4, n1, h3⟩ := h
  have n2 : tp ≠ g := fun z => by rw [z, h1] at h4; cases h4
  exact ⟨dx, by rw [upd_ne n2.symm]; exact h1, by rw [upd_ne n1.symm]; exact h2, n1, n2, h3.mono rm2_upd⟩
/-- a deed's call, told locked -/
theorem s_deed {SA : Addr → Option Sp} {f : Addr} {sp : Sp} {p : Int} {tp g ea na ra : Addr} {zs : List En} {ns : List Nat} {rs : List (List Int)} {q : EditSpec.Call} {tn : List Int} (hS : SA f = some sp) (hD : Does A p sp)
    (h7 : σ[7]? = some (some (.ref f))) (h1 : σ[1]? = some (some (.ref g))) (h6 : σ[6]? = some (some (.ref na))) (h9 : σ[9]? = some (some (.ref ra)))
    (hsh : PyWrmprv.shape p = some (ns.length, rs.length)) (hq : EditNeutral.callOf ((p :: natI ns) :: rs) = some q) (hL : LogU A tp H g ea zs) (gd : GoodL (lg zs)) (ht : H tp = some (.lst (tn.map V.int))) (hna : H na = some (.lst ((natI ns).map V.int))) (hnt : na ≠ tp) (hra : LstAt RRow (rm2 H ea tp) ra rs)
    (k : ∀ v zs' H1, Same (rm2 H ea tp) H1 → LogU A tp H1 g ea zs' → lg zs' = (EditSpec.step (lg zs) q).1 → GoodL (lg zs') → H1 tp = some (.lst (tn.map V.int)) → (∃ a, v = .ref a ∧ a ≠ tp ∧ H1 a = some (.lst ((LsRows.told (EditSpec.step (lg zs) q).2).map V.int))) → Run u (σ.set 8 (some v)) B H1 R N) :
    Run (tSeq (tAsg (tLockE (tCallA 7 SA (tCons (tVar 1) (tCons (tVar 6) (tCons (tVar 9) tNil))))) (gName 8)) u) σ B H R N := fun H1 e D qq n => by
  have hL1 := hL.mono e
  refine ⟨tp, _, e _ _ ht, trivial, fun od => ⟨f, sp, h7, hS, _, h1, _, h6, _, h9, ?_⟩⟩
  have hn1 : L2.upd H1 tp (.frz od (.lst (tn.map V.int))) na = some (.lst ((natI ns).map V.int)) := by rw [upd_ne hnt]; exact e _ _ hna
  refine hD tp g ea na ra zs ns rs q _ _ _ hsh hq hL1.lock gd hn1 (hra.mono ((rm2_mono e).trans rm2_upd)) fun v H' s' hd => ?_
  obtain ⟨zs', hq', e1, gd', a, rfl, ha⟩ := hd
  have ne : tp ≠ ea := by obtain ⟨_, _, _, n, _⟩ := hL1; exact n
  have hft : H' tp = some (.frz od (.lst (tn.map V.int))) := s' _ _ (rm_ne upd_same ne)
  rw [ints_iff] at ha
  have nat : a ≠ tp := fun z => by rw [z, hft] at ha; cases ha
  refine ⟨hft, k (.ref a) zs' (L2.upd H' tp (.lst (tn.map V.int))) (fun b x hb => ?_) hq'.free e1 gd' upd_same ⟨a, rfl, nat, by rw [upd_ne nat]; exact ha⟩ _ (Same.refl _) D qq n⟩
  have hb1 := (rm2_mono (ea := ea) (tp := tp) e) _ _ hb
  have hb2 := rm2_upd (o := .frz od (.lst (tn.map V.int))) _ _ hb1
  have nt : b ≠ tp := fun z => by
    rw [z] at hb
    have : rm2 H ea tp tp = none := rm_at
    rw [this] at hb; cases hb
  rw [upd_ne nt]
  exact s' _ _ ((rm_same (H := rm (L2.upd H1 tp (.frz od (.lst (tn.map V.int)))) ea) (a := tp)) _ _ hb2)
theorem RRows.weak {B B' : Hp} {rs : List (List Int)} {n : Nat} {v : V} {H' : Hp} (e : Same B B') (h : RRows B' rs n v H') : RRows B rs n v H' := by
  obtain ⟨t, ra, us, h1, h2, h3, h4, h5⟩ := h
  exact ⟨t, ra, us, h1, h2, e.free h3, h4, h5.monoP fun v r q => ⟨q.1, by obtain ⟨p, h6, h7⟩ := q.2; exact ⟨p, h6, e.free h7⟩⟩⟩
theorem e_rows {ta : TA} {ca : Addr} {L : List Int} {st k : Nat} {xs : List (List Int)} {tl : List Int} {E : XK} (h : EvA ta σ H (isA [.ref ca, .int st, .int k])) (hca : SqL K H ca (L.map V.int)) (hl : L.length ≤ 1000000) (hk : k ≤ 1000) (hs : st ≤ L.length) (hr : PyFlat.rows k (L.drop st) = some (xs, tl)) : EvP (tCall (sp_rows_from K A) [] E ta) σ H (RRows H xs (L.length - tl.length)) := fun H1 e Q q =>
  h H1 e _ fun us H2 e2 hu => by
    cases hu
    show pure _ ([V.ref ca, V.int st, V.int k] ++ []) H2 Q E
    rw [List.append_nil]
    exact ⟨RRows H2 xs (L.length - tl.length), ⟨ca, L, st, k, xs, tl, rfl, (e.trans e2).sl hca, hl, hk, hs, hr, rfl⟩, fun v H3 s3 hv => q v H3 (e2.trans s3) (hv.weak (e.trans e2))⟩
theorem paired_ri {vs : List V} {ys : List Int} {H : Hp} (h : Paired (fun v x => RI x v H) vs ys) : vs = ys.map V.int := by
  induction h with
  | nil => rfl
  | cons a b ih => rw [List.map_cons, ← ih]; congr 1
def sp_answers (K : PySem.W.Frag) (A : Ad) : Sp := pure fun vs H R => ∃ (ca : Addr) (L : List Int), vs = [.ref ca] ∧ SqL K H ca (L.map V.int) ∧ L.length ≤ 100000 ∧ PyWrmprv.answers_asked L = true ∧ R = RLst RI (PyWrmprv.answers L)
def wNum : List (Int × V) := [(1, .int 4), (2, .int 2), (3, .int 1), (4, .int 0), (5, .int 1), (6, .int 2), (7, .int 1), (8, .int 1), (9, .int 1), (10, .int 1), (11, .int 1), (12, .int 1), (13, .int 0), (14, .int 2), (15, .int 0), (16, .int 0)]
def wRow : List (Int × V) := [(1, .int 2), (2, .int 0), (3, .int 1), (4, .int 0), (5, .int 0), (6, .int 0), (7, .int 1), (8, .int 1), (9, .int 1), (10, .int 0), (11, .int 1), (12, .int 0), (13, .int 1), (14, .int 0), (15, .int 2), (16, .int 0)]
theorem w_shape {p : Int} {n k : Nat} (h : PyWrmprv.shape p = some (n, k)) : wNum.lookup p = some (.int n) ∧ wRow.lookup p = some (.int k) ∧ k ≤ 1000 := by
  rcases Pl.shape_cases h with ⟨rfl, rfl, rfl⟩ | ⟨rfl, rfl, rfl⟩ | ⟨rfl, rfl, rfl⟩ | ⟨rfl, rfl, rfl⟩ | ⟨rfl, rfl, rfl⟩ | ⟨rfl, rfl, rfl⟩ | ⟨rfl, rfl, rfl⟩ | ⟨rfl, rfl, rfl⟩ | ⟨rfl, rfl, rfl⟩ | ⟨rfl, rfl, rfl⟩ | ⟨rfl, rfl, rfl⟩ | ⟨rfl, rfl, rfl⟩ | ⟨rfl, rfl, rfl⟩ | ⟨rfl, rfl, rfl⟩ | ⟨rfl, rfl, rfl⟩ | ⟨rfl, rfl, rfl⟩ <;> exact ⟨rfl, rfl, by decide⟩
/-- the loop's word -/
def Loop (A : Ad) (L : List Int) (ca g tp ea : Addr) (σ' : L2.St) (H' : Hp) : Prop := ∃ (v4 v5 v6 v7 v8 v9 : Option V) (r : List Int) (f : Nat) (cs : List (List (List Int))) (zs : List En) (tn : List Int),
  σ' = [some (.ref ca), some (.ref g), some (.ref tp), some (.int (L.length - r.length : Nat)), v4, v5, v6, v7, v8, v9] ∧ r.length ≤ L.length ∧ r = L.drop (L.length - r.length) ∧ PyFlat.calls PyWrmprv.shape f r = some cs ∧ Pl.OkC cs ∧
  LogU A tp H' g ea zs ∧ GoodL (lg zs) ∧ H' tp = some (.lst (tn.map V.int)) ∧ PyWrmprv.answers L = tn ++ PyFlat.told (PyFlat.played EditNeutral.step (lg zs) cs)
def left (L : List Int) (σ' : L2.St) : Nat := match σ'[3]? with
  | some (some (V.int i)) => L.length - i.toNat
  | _ => 0
theorem drop_back {α : Type} {L r : List α} (h : ∃ m, r = L.drop m) (hr : r.length ≤ L.length) : r = L.drop (L.length - r.length) := by
  obtain ⟨m, e⟩ := h
  by_cases c : m ≤ L.length
  · rw [e, List.length_drop]; congr 1; omega
  · rw [List.drop_eq_nil_of_le (by omega)] at e
    rw [e]; simp
theorem ok_answers (T : Txt K mg A) (c_Logbook : C8.Mak P w K mg base 1 "Logbook" A.aLogbook (sp_Logbook_init K A) []) (c_rows_from : C8.Cal P w K mg base 1 "rows_from" (sp_rows_from K A) []) {SA : Addr → Option Sp} (CA : ∀ f sp, SA f = some sp → Held P w K mg base 7 f sp)
    (CD : ∀ p n k, PyWrmprv.shape p = some (n, k) → ∃ f sp, A.deeds.lookup p = some (.ref f) ∧ SA f = some sp ∧ Does A p sp) {f : Addr} {fd : FuncData} (F : C8.Def K mg "answers" s_answers f fd) (bb : Binds K fd ["calls"] []) : FnOk P w K mg base C8.CX0 8 f fd ["calls"] (sp_answers K A) := by
  refine C8.fn0 F.fn sc_answers (fun vs H Q E h => ?_) (fun cdv Ar outer s H vs Q E hr h => ?_)
  · obtain ⟨R, ⟨ca, L, rfl, _⟩, _⟩ := h
    rfl
  · obtain ⟨R, ⟨ca, L, rfl, hca, hl, hask, rfl⟩, k⟩ := h
    obtain ⟨cs0, hc0, hok0, hans, hlen⟩ := Pl.asked_ok hask
    refine ⟨_, (pss_cons (ps_set (i := 1) sc_answers.nd rfl (Or.inl rfl) (pe_mk0 c_Logbook hr (by decide) rfl)) (pss_cons (ps_set (i := 2) sc_answers.nd rfl (Or.inl rfl) (pe_lst pa_nil)) (pss_cons (ps_set (i := 3) sc_answers.nd rfl (Or.inl rfl) pe_int) (pss_cons (ps_while PassesOwn.never (pt_cmpR op_lt (pv 3) (pe_callB call_len_seq (by rfl) T.len (by decide +kernel) (pa_cons (pv 0) pa_nil)) (nomark _)) (pss_cons (ps_set (i := 4) sc_answers.nd rfl (Or.inl rfl) (pe_ix ix_list (pv 0) (pv 3) (fun _ _ => rfl))) (pss_cons (ps_set (i := 5) sc_answers.nd rfl (Or.inl rfl) (pe_op op_add (pe_op op_add (pv 3) pe_int) (pe_ix (ix_w T.w_NUMBERS) (C8.pe_gc rfl T.g_NUMBERS) (pv 4) (fun _ _ => rfl)))) (pss_cons (ps_set (i := 6) sc_answers.nd rfl (Or.inl rfl) (pe_slice sl_list (pv 0) (po_some (pe_op op_add (pv 3) pe_int)) (po_some (pv 5)))) (pss_cons (ps_asg (C8.pe_c c_rows_from hr (by decide) rfl (pa_cons (pv 0) (pa_cons (pv 5) (pa_cons (pe_ix (ix_w T.w_ROWS) (C8.pe_gc rfl T.g_ROWS) (pv 4) (fun _ _ => rfl)) pa_nil)))) (pg_tup rfl (pgs_cons (pg_name (i := 9) sc_answers.nd rfl (Or.inl rfl)) (pgs_cons (pg_name (i := 3) sc_answers.nd rfl (Or.inl rfl)) pgs_nil)))) (pss_cons (ps_set (i := 7) sc_answers.nd rfl (Or.inl rfl) (pe_ix (ix_w T.w_DEEDS) (C8.pe_gc rfl T.g_DEEDS) (pv 4) (fun _ _ => rfl))) (pss_cons (ps_set (i := 8) sc_answers.nd rfl (Or.inl rfl) (pe_lock (pe_callA (i := 7) CA hr rfl (Or.inl rfl) (pa_cons (pv 1) (pa_cons (pv 6) (pa_cons (pv 9) pa_nil)))))) (pss_cons (ps_expr (pe_bm PySem.F.plainAttrs_list PySem.F.slot_list_append PySem.F.type_list_append mt_append (pv 2) (pa_cons (pe_callB call_len_seq (by rfl) T.len (by decide +kernel) (pa_cons (pv 8) pa_nil)) pa_nil))) (pss_one (ps_expr (pe_bm PySem.F.plainAttrs_list PySem.F.slot_list_extend PySem.F.type_list_extend mt_extend (pv 2) (pa_cons (pv 8) pa_nil)))))))))))) (pss_one (ps_ret (pv 2))))))), body (s_set (Ra := fun v H1 => ∃ g dx ea, v = .ref g ∧ H1 g = some (.ins A.aLogbook dx [("entries", .ref ea)]) ∧ H1 ea = some (.lst []) ∧ H g = none ∧ H ea = none) ?_ fun v H1 s1 hv => ?_) k⟩
    · intro H0 e Q' q
      refine fun x dx hx hdx hne => ⟨x, dx, rfl, upd_same, fun H' ea s' h1 h2 h3 => ⟨rfl, q _ _ ?_ ⟨x, dx, ea, rfl, h1, h2, e.free hx, ?_⟩⟩⟩
      · intro b u hb
        exact s' _ _ (rm_ne (by rw [upd_ne (ne_of_none hb hx), upd_ne (ne_of_none hb hdx)]; exact hb) (ne_of_none hb hx))
      · have : H0 ea = none := by
          have nx : ea ≠ x := fun z => by rw [z, upd_same] at h3; cases h3
          rw [upd_ne nx] at h3
          by_cases nd : ea = dx
          · rw [nd]; exact hdx
          · rw [upd_ne nd] at h3; exact h3
        exact e.free this
    · obtain ⟨g, dx, ea, rfl, hg, hea, fg, fea⟩ := hv
      refine s_newL s1 fun tp H2 hp0 s2 sB2 hBt ht => ?_
      have hg2 := s2 _ _ hg
      have hea2 := s2 _ _ hea
      have ntg : tp ≠ g := fun z => by rw [z, hg] at hp0; cases hp0
      have nte : tp ≠ ea := fun z => by rw [z, hea] at hp0; cases hp0
      refine s_set ev_c fun v H3 s3 hv => ?_
      cases hv
      refine s_seq (M := fun σ' H' => ∃ v3 v4 v5 v6 v7 v8 v9, σ' = [some (.ref ca), some (.ref g), some (.ref tp), v3, v4, v5, v6, v7, v8, v9] ∧ H' tp = some (.lst ((PyWrmprv.answers L).map V.int))) (s_while (sB2.trans s3) (Loop A L ca g tp ea) (left L) (fun H4 e => ?_) fun σ' H' sB q => ?_) fun σ' H' s' hM => ?_
      · refine ⟨none, none, none, none, none, none, L, L.length, cs0, [], [], ?_, Nat.le_refl _, by rw [Nat.sub_self]; rfl, hc0, hok0, ?_, GoodL.nil, e _ _ (s3 _ _ ht), ?_⟩
        · rw [Nat.sub_self]; rfl
        · exact ⟨dx, e _ _ (s3 _ _ hg2), e _ _ (s3 _ _ hea2), nte, ntg, trivial⟩
        · rw [hans]; rfl
      · have q0 := q
        obtain ⟨v4, v5, v6, v7, v8, v9, r, fu, cs, zs, tn, rfl, hrl, hrd, hcs, hok, hL, gd, htp, hall⟩ := q
        have hcaH := sB.sl hca
        refine ⟨decide (((L.length - r.length : Nat) : Int) < (L.length : Int)), et_test (e_lt (ev_var rfl) ((e_lenQ (ev_var rfl) hcaH).is (by rw [List.length_map]))), fun hb => ?_, fun hb H5 e5 => ?_⟩
        · rw [decide_eq_true_eq] at hb
          cases r with
          | nil => simp at hb
          | cons p r1 =>
            obtain ⟨fu', n, kk, xs, tl, cs', hsh, hn, hrows, hcs', rfl⟩ := Pl.calls_inv hcs
            rw [List.length_cons] at hrl hrd
            have r1d : r1 = L.drop (L.length - r1.length) := by
              have := congrArg (List.drop 1) hrd
              rw [List.drop_drop] at this
              rw [show L.length - (r1.length + 1) + 1 = L.length - r1.length by omega] at this
              exact this
            have gx : (L.map V.int)[L.length - (r1.length + 1)]? = some (.int p) := by
              have := congrArg (fun l : List Int => l[0]?) hrd
              simp only [List.getElem?_cons_zero, List.getElem?_drop, Nat.add_zero] at this
              rw [List.getElem?_map, ← this]; rfl
            obtain ⟨w1, w2, w3⟩ := w_shape hsh
            obtain ⟨fd', spd, hdl, hSA, hD⟩ := CD p n kk hsh
            obtain ⟨hin, hsome⟩ := hok _ List.mem_cons_self
            obtain ⟨qc, hqc⟩ := Option.isSome_iff_exists.mp hsome
            -- its numbers
            have hb2 := Pl.bound_shape hsh
            have hin' : (PyInside.each (PyWrmprv.bound p).1 (r1.take n) && PyInside.lists (PyWrmprv.bound p).2 xs) = true := hin
            rw [Bool.and_eq_true] at hin'
            have tl1 : (r1.take n).length = n := by rw [List.length_take]; omega
            obtain ⟨ns, hns⟩ := Pl.nats_of (Pl.each_nat _ _ hb2.1 (by rw [hb2.2, tl1]; exact Nat.le_refl _) hin'.1)
            have hnsl : ns.length = n := by rw [← tl1, hns, List.length_map]
            obtain ⟨xl, tll, j, tlj⟩ := rows_len hrows
            -- word
            refine s_set (e_ixQ (ev_var rfl) (ev_var rfl) hcaH (atI_nat (by rw [List.length_cons]; exact gx))) fun v H5 s5 hv => ?_
            cases hv
            -- behind
            refine s_set (Ra := isV (.int (L.length - r1.length + n : Nat))) ((e_add (e_add (ev_var rfl) ev_c) (e_wix (ev_var rfl) w1)).is (congrArg V.int (by rw [List.length_cons]; omega))) fun v H6 s6 hv => ?_
            cases hv
            have s56 := s5.trans s6
            -- numbers
            refine s_set (Ra := isF H6 (((L.map V.int).drop (L.length - r1.length)).take (L.length - r1.length + n - (L.length - r1.length)))) (e_sl2F (ev_var rfl) ((e_add (ev_var rfl) ev_c).is (congrArg V.int (by rw [List.length_cons]; omega))) (ev_var rfl) (s56.sl hcaH) (by omega) (by rw [List.length_map]; omega)) fun v H7 s7 hv => ?_
            obtain ⟨na, rfl, hna, fna⟩ := hv
            have s57 := s56.trans s7
            have hnaN : H7 na = some (.lst ((natI ns).map V.int)) := by
              rw [hna, show L.length - r1.length + n - (L.length - r1.length) = n by omega, ← List.map_drop, ← r1d, ← List.map_take, hns]; rfl
            have nant : na ≠ tp := fun z => by rw [z, s56 _ _ htp] at fna; cases fna
            -- rows, at
            have hrr : PyFlat.rows kk (L.drop (L.length - r1.length + n)) = some (xs, tl) := by
              rw [← hrows]
              congr 1
              rw [← List.drop_drop, ← r1d]
            refine s_set2 (i := 9) (j := 3) (Ra := RRows H7 xs (L.length - tl.length)) (e_rows (ea_cons (ev_var rfl) (ea_cons (ev_var rfl) (ea_cons (e_wix (ev_var rfl) w2) ea_nil))) (s57.sl hcaH) (by omega) w3 (by omega) hrr) fun v H8 s8 hv => ?_
            obtain ⟨tt, ra, us, rfl, htt, fra, hra, hpr⟩ := hv
            refine ⟨tt, _, _, rfl, htt, ?_⟩
            have s58 := s57.trans s8
            -- the deed
            refine s_set (e_wix (ev_var rfl) hdl) fun v H9 s9 hv => ?_
            cases hv
            have s59 := s58.trans s9
            have htp9 := s59 _ _ htp
            have hL9 := hL.mono s59
            have hea7 : ∃ u, H7 ea = some u := by
              obtain ⟨dx', _, h2, _⟩ := hL
              exact ⟨_, s57 _ _ h2⟩
            obtain ⟨uea, hea7⟩ := hea7
            have fresh : ∀ b, H7 b = none → b ≠ ea ∧ b ≠ tp := fun b hb => ⟨fun z => (by rw [z, hea7] at hb; cases hb), fun z => (by rw [z, s57 _ _ htp] at hb; cases hb)⟩
            have hra9 : LstAt RRow (rm2 H9 ea tp) ra xs := by
              refine ⟨us, rm2_ne (s9 _ _ hra) (fresh ra fra).1 (fresh ra fra).2, hpr.monoP fun v r q => ?_⟩
              obtain ⟨⟨b, rfl, hb⟩, b', eb, fb⟩ := q
              cases eb
              rw [ints_iff] at hb
              exact ⟨b, rfl, ints_iff.mpr (rm2_ne (s9 _ _ hb) (fresh b fb).1 (fresh b fb).2)⟩
            have hqc' : EditNeutral.callOf ((p :: natI ns) :: xs) = some qc := by rw [← hqc, hns]; rfl
            refine s_deed hSA hD rfl rfl rfl rfl (by rw [hnsl, xl]; exact hsh) hqc' hL9 gd htp9 ((s8.trans s9) _ _ hnaN) nant hra9 fun v zs' H10 s10 hL10 e10 gd10 ht10 hv10 => ?_
            obtain ⟨aa, rfl, naa, haa⟩ := hv10
            have sB10 : Same H H10 := (rm_of (rm_of (sB.trans s59) fea) hBt).trans s10
            have hall' := hall
            rw [Pl.told_cons (hqc : EditNeutral.callOf ((p :: r1.take n) :: xs) = some qc)] at hall'
            have hln := congrArg List.length hall'
            rw [List.length_append, List.length_append, List.length_cons] at hln
            generalize hys : LsRows.told (EditSpec.step (lg zs) qc).2 = ys at haa hall' hln
            refine s_app (Ra := isV (.int ys.length)) sB10 hBt ht10 (ev_var rfl) (e_lenI (ev_var rfl) haa) (by rw [List.length_map]; omega) fun v H11 s11 hv => ?_
            cases hv
            have sB11 : Same H (L2.upd H11 tp (.lst (tn.map V.int ++ [V.int ys.length]))) := (sB10.trans s11).mut hBt
            refine s_extN (F := RI) (ys := ys) sB11 hBt upd_same (ev_var rfl) ((ev_var rfl).imp fun v H12 e12 hv => ?_) (by rw [List.length_append, List.length_map, List.length_singleton]; omega) fun vs H12 s12 hvs sB12 => ?_
            · cases hv
              exact ⟨aa, rfl, ints_iff.mpr (e12 _ _ (by rw [upd_ne naa]; exact s11 _ _ haa))⟩
            · have evs := paired_ri hvs
              subst evs
              have tl2 : tl.length ≤ r1.length := by rw [List.length_drop] at tll; omega
              refine ⟨⟨_, _, _, _, _, _, tl, fu', cs', zs', tn ++ ((ys.length : Int) :: ys), rfl, by omega, drop_back ⟨L.length - r1.length + n + j, ?_⟩ (by omega), hcs', fun c hc => hok c (List.mem_cons_of_mem _ hc), ((hL10.mono s11).upd.mono s12).upd, gd10, ?_, ?_⟩, ?_⟩
              · rw [tlj, ← List.drop_drop, ← List.drop_drop, ← r1d]
              · rw [upd_same, List.map_append, List.map_cons, List.append_assoc]; rfl
              · rw [hall', e10]
                rw [← hys]
                simp only [List.append_assoc, List.cons_append]
              · show L.length - ((L.length - tl.length : Nat) : Int).toNat < L.length - ((L.length - (p :: r1).length : Nat) : Int).toNat
                rw [Int.toNat_natCast, Int.toNat_natCast, List.length_cons]
                omega
        · rw [decide_eq_false_iff_not] at hb
          have e0 : r = [] := List.eq_nil_of_length_eq_zero (by omega)
          subst e0
          have := Pl.calls_nil hcs
          subst this
          refine ⟨_, _, _, _, _, _, _, rfl, ?_⟩
          rw [e5 _ _ htp, hall]
          simp [PyFlat.told, PyFlat.played]
      · obtain ⟨v3, v4, v5, v6, v7, v8, v9, rfl, ht'⟩ := hM
        refine s_ret s' ((ev_var rfl).imp fun v H5 e hv => ?_)
        cases hv
        exact ⟨tp, rfl, ints_iff.mpr (e _ _ ht')⟩
end
end Wk
end
/-! ### WEnd -/
section
set_option Elab.async false
set_option linter.all false
set_option maxRecDepth 100000
set_option maxHeartbeats 4000000
/-! what the top has left, and the defs one behind another -/
namespace Wk
open PySem PySem.Spec PyProof.Rows L2
open He (ga ma fAd)
theorem bb2 {a b : Bool} (h : (a && b) = true) : a = true ∧ b = true := Bool.and_eq_true_iff.mp h
theorem intsOf_ok : ∀ {us : List Value} {ns : List Int}, intsOf us ns = true → Vals (ns.map V.int) us
  | [], [], _ => .nil
  | [], _ :: _, h => by cases h
  | u :: us, [], h => by cases u <;> cases h
  | u :: us, n :: ns, h => by
    cases u with
    | int i t =>
      obtain ⟨h1, h2⟩ := bb2 (show (decide (i = n) && intsOf us ns) = true from h)
      have e := of_decide_eq_true h1
      subst e
      exact .cons ⟨t, rfl⟩ (intsOf_ok h2)
    | _ => cases h
theorem strsOf_ok : ∀ {us : List Value} {ns : List Str}, strsOf us ns = true → Vals (ns.map V.str) us
  | [], [], _ => .nil
  | [], _ :: _, h => by cases h
  | u :: us, [], h => by cases u <;> cases h
  | u :: us, n :: ns, h => by
    cases u with
    | str i t =>
      obtain ⟨h1, h2⟩ := bb2 (show (decide (i = n) && strsOf us ns) = true from h)
      have e := of_decide_eq_true h1
      subst e
      exact .cons ⟨t, rfl⟩ (strsOf_ok h2)
    | _ => cases h
section
variable {K : PySem.W.Frag}
theorem tup_ok {x : Str} {t : List Value → Bool} {xs : List V} (h : tupC K x t = true) (k : ∀ us, t us = true → Vals xs us) : ∀ H : Hp, SqT K H (ga K x) xs := fun H => by
  unfold tupC at h
  split at h
  · rename_i c d its n sl e
    obtain ⟨h1, h2⟩ := bb2 h
    obtain ⟨h2, h3⟩ := bb2 h2
    exact .inr ⟨_, its, n, e, of_decide_eq_true h1, rfl, Nat.le_trans (Nat.le_of_ble_eq_true h2) (by decide), k _ h3⟩
  · cases h
theorem valI_ok {u : Value} {v : V} (h : valI K u v = true) : RelV v u := by
  unfold valI at h
  split at h
  · have e := of_decide_eq_true h; subst e; exact ⟨_, rfl⟩
  · have e := of_decide_eq_true h; subst e; rfl
  · cases h
theorem entC_ok : ∀ {es : List DictEntry} {kvs : List (Int × V)}, entC K es kvs = true → Wrote es kvs
  | [], [], _ => trivial
  | [], _ :: _, h => by cases h
  | e :: r, [], h => by cases h
  | e :: r, p :: q, h => by
    obtain ⟨h1, h2⟩ := bb2 (show ((match e.key with
      | .int i _ => decide (i = p.1)
      | _ => false) && (decide (e.hash = hashInt p.1) && (valI K e.val p.2 && entC K r q))) = true from h)
    obtain ⟨h2, h3⟩ := bb2 h2
    obtain ⟨h3, h4⟩ := bb2 h3
    refine ⟨?_, of_decide_eq_true h2, valI_ok h3, entC_ok h4⟩
    split at h1
    · rename_i i t ek
      have e2 := of_decide_eq_true h1
      subst e2
      exact ⟨t, ek⟩
    · cases h1
theorem dict_ok {x : Str} {kvs : List (Int × V)} (h : dictC K x kvs = true) : WDict K (ga K x) kvs := by
  unfold dictC at h
  split at h
  · rename_i c es n sl e
    obtain ⟨h1, h2⟩ := bb2 h
    obtain ⟨h2, h3⟩ := bb2 h2
    have e1 := of_decide_eq_true h1
    subst e1
    rw [Array.isEmpty_iff] at h2
    subst h2
    exact ⟨es, n, e, entC_ok h3⟩
  · cases h
theorem ins_ok {x : Str} (c : Cls K (ga K x)) (h : insC K x = true) (k : kitC K x x true = true) : C8.InsC K (ga K x) := by
  obtain ⟨h1, h2⟩ := bb2 h
  obtain ⟨h2, h3⟩ := bb2 h2
  obtain ⟨h3, h4⟩ := bb2 h3
  exact ⟨c, He.eqO_ok h1, He.eqO_ok h2, of_decide_eq_true h3, of_decide_eq_true h4, of_decide_eq_true k⟩
theorem kit_ok {x y : Str} {b : Bool} (h : kitC K x y b = true) : PySem.W.kitOne K (.ref (ga K x)) (.ref (ga K y)) = some b := of_decide_eq_true h
end
/-- what the end leans on -/
def Says (K : PySem.W.Frag) : Prop := He.SaysE faL fnL K ∧ (moreL K).all id = true
section
variable {K : PySem.W.Frag}
theorem Says.more (c : Says K) (i : Nat) {b : Bool} (h : (moreL K)[i]? = some b := by rfl) : b = true := List.all_eq_true.mp c.2 b (List.mem_of_getElem? h)
variable {h : Heap} {mg : Str → Option Value}
theorem int_rel {x : Str} {i : Int} (h : ∃ t, mg x = some (.int i t)) : ∃ u, mg x = some u ∧ RelV (.int i) u := by
  obtain ⟨t, e⟩ := h
  exact ⟨_, e, t, rfl⟩
theorem txt_of (X : K.In h) (G : h.Ns mainGlobals mg) (c : Says K) : Txt K mg (adOf K) where
  isinstance := He.free_ok X G (c.1.fact 0)
  len := He.free_ok X G (c.1.fact 1)
  list := He.free_ok X G (c.1.fact 2)
  max := He.free_ok X G (c.1.fact 3)
  min := He.free_ok X G (c.1.fact 4)
  ord := He.free_ok X G (c.1.fact 5)
  range := He.free_ok X G (c.1.fact 6)
  reversed := He.free_ok X G (c.1.fact 7)
  set := He.free_ok X G (c.1.fact 8)
  sorted := He.free_ok X G (c.1.fact 9)
  sum := He.free_ok X G (c.1.fact 10)
  tuple := He.free_ok X G (c.1.fact 11)
  g_Put := ⟨_, He.glo_ok X G (c.1.fact 12 (f := .glo "Put")), rfl⟩
  cl_Put := He.cls_ok (c.1.fact 24 (f := .cls "Put"))
  g_Out := ⟨_, He.glo_ok X G (c.1.fact 13 (f := .glo "Out")), rfl⟩
  cl_Out := He.cls_ok (c.1.fact 25 (f := .cls "Out"))
  g_Issue := ⟨_, He.glo_ok X G (c.1.fact 14 (f := .glo "Issue")), rfl⟩
  cl_Issue := He.cls_ok (c.1.fact 26 (f := .cls "Issue"))
  g_Logbook := ⟨_, He.glo_ok X G (c.1.fact 15 (f := .glo "Logbook")), rfl⟩
  cl_Logbook := He.cls_ok (c.1.fact 27 (f := .cls "Logbook"))
  g_Feature := ⟨_, He.glo_ok X G (c.1.fact 16 (f := .glo "Feature")), rfl⟩
  cl_Feature := He.cls_ok (c.1.fact 28 (f := .cls "Feature"))
  g_LAST_DAY := int_rel (He.int_ok X G (c.1.fact 29 (f := .int "LAST_DAY" 99999)))
  g_MOST_ENTRIES := int_rel (He.int_ok X G (c.1.fact 30 (f := .int "MOST_ENTRIES" 400)))
  g_LAND_SIDE := int_rel (He.int_ok X G (c.1.fact 31 (f := .int "LAND_SIDE" 1000000)))
  g_LAST_SERIES := int_rel (He.int_ok X G (c.1.fact 32 (f := .int "LAST_SERIES" 6)))
  g_GREAT_S := int_rel (He.int_ok X G (c.1.fact 33 (f := .int "GREAT_S" 83)))
  g_SMALL_S := int_rel (He.int_ok X G (c.1.fact 34 (f := .int "SMALL_S" 115)))
  g_DIGIT_ONE := int_rel (He.int_ok X G (c.1.fact 35 (f := .int "DIGIT_ONE" 49)))
  g_DIGIT_FOUR := int_rel (He.int_ok X G (c.1.fact 36 (f := .int "DIGIT_FOUR" 52)))
  g_DIGIT_ZERO := int_rel (He.int_ok X G (c.1.fact 37 (f := .int "DIGIT_ZERO" 48)))
  g_BLANK_sheets := int_rel (He.int_ok X G (c.1.fact 38 (f := .int "BLANK_sheets" 32)))
  g_NORTHERN := ⟨_, He.glo_ok X G (c.1.fact 17 (f := .glo "NORTHERN")), rfl⟩
  w_NORTHERN := tup_ok (t := fun us => intsOf us [1, 2]) (c.more 0) fun us q => intsOf_ok (ns := [1, 2]) q
  g_EASTERN := ⟨_, He.glo_ok X G (c.1.fact 18 (f := .glo "EASTERN")), rfl⟩
  w_EASTERN := tup_ok (t := fun us => intsOf us [2, 4]) (c.more 1) fun us q => intsOf_ok (ns := [2, 4]) q
  g_TOO_LONG := int_rel (He.int_ok X G (c.1.fact 39 (f := .int "TOO_LONG" (-2))))
  g_OUT_OF_BOUNDS := int_rel (He.int_ok X G (c.1.fact 40 (f := .int "OUT_OF_BOUNDS" (-1))))
  g_CODE_FAULT := int_rel (He.int_ok X G (c.1.fact 41 (f := .int "CODE_FAULT" (-6))))
  g_NO_SUCH := int_rel (He.int_ok X G (c.1.fact 42 (f := .int "NO_SUCH" (-4))))
  g_FULL := int_rel (He.int_ok X G (c.1.fact 43 (f := .int "FULL" (-7))))
  g_NOT_NOW := int_rel (He.int_ok X G (c.1.fact 44 (f := .int "NOT_NOW" (-5))))
  g_NOTHING_THERE := int_rel (He.int_ok X G (c.1.fact 45 (f := .int "NOTHING_THERE" (-3))))
  g_LAST_NUMBER := int_rel (He.int_ok X G (c.1.fact 46 (f := .int "LAST_NUMBER" 9999)))
  g_LONGEST_CODE := int_rel (He.int_ok X G (c.1.fact 47 (f := .int "LONGEST_CODE" 32)))
  g_SPOT := int_rel (He.int_ok X G (c.1.fact 48 (f := .int "SPOT" 0)))
  g_LINE := int_rel (He.int_ok X G (c.1.fact 49 (f := .int "LINE" 1)))
  g_AREA := int_rel (He.int_ok X G (c.1.fact 50 (f := .int "AREA" 2)))
  g_MOST_SHEETS := int_rel (He.int_ok X G (c.1.fact 51 (f := .int "MOST_SHEETS" 64)))
  g_NEW := int_rel (He.int_ok X G (c.1.fact 52 (f := .int "NEW" 1)))
  g_ANOTHER := int_rel (He.int_ok X G (c.1.fact 53 (f := .int "ANOTHER" 2)))
  g_GONE := int_rel (He.int_ok X G (c.1.fact 54 (f := .int "GONE" 3)))
  g_SHAPE_WORDS := ⟨_, He.glo_ok X G (c.1.fact 19 (f := .glo "SHAPE_WORDS")), rfl⟩
  w_SHAPE_WORDS := tup_ok (t := fun us => strsOf us ["spot", "line", "area"]) (c.more 2) fun us q => strsOf_ok (ns := ["spot", "line", "area"]) q
  g_QUOTE := int_rel (He.int_ok X G (c.1.fact 55 (f := .int "QUOTE" 34)))
  g_BLANK_texts := int_rel (He.int_ok X G (c.1.fact 56 (f := .int "BLANK_texts" 32)))
  g_WENT := int_rel (He.int_ok X G (c.1.fact 57 (f := .int "WENT" 2)))
  g_LONGEST_NAME := int_rel (He.int_ok X G (c.1.fact 58 (f := .int "LONGEST_NAME" 40)))
  g_FIRST_SIGN := int_rel (He.int_ok X G (c.1.fact 59 (f := .int "FIRST_SIGN" 32)))
  g_LAST_SIGN := int_rel (He.int_ok X G (c.1.fact 60 (f := .int "LAST_SIGN" 126)))
  g_NO_SIGNS := ⟨_, He.glo_ok X G (c.1.fact 20 (f := .glo "NO_SIGNS")), rfl⟩
  w_NO_SIGNS := tup_ok (t := fun us => intsOf us [34, 92]) (c.more 3) fun us q => intsOf_ok (ns := [34, 92]) q
  g_LAST_GROUP := int_rel (He.int_ok X G (c.1.fact 61 (f := .int "LAST_GROUP" 31)))
  g_LAST_COORDINATE := int_rel (He.int_ok X G (c.1.fact 62 (f := .int "LAST_COORDINATE" 999999)))
  g_MOST_PLACES := int_rel (He.int_ok X G (c.1.fact 63 (f := .int "MOST_PLACES" 64)))
  g_MOST_FEATURES := int_rel (He.int_ok X G (c.1.fact 64 (f := .int "MOST_FEATURES" 200)))
  g_DEEDS := ⟨_, He.glo_ok X G (c.1.fact 21 (f := .glo "DEEDS")), rfl⟩
  w_DEEDS := dict_ok (c.more 4)
  g_NUMBERS := ⟨_, He.glo_ok X G (c.1.fact 22 (f := .glo "NUMBERS")), rfl⟩
  w_NUMBERS := dict_ok (c.more 5)
  g_ROWS := ⟨_, He.glo_ok X G (c.1.fact 23 (f := .glo "ROWS")), rfl⟩
  w_ROWS := dict_ok (c.more 6)
  n_Put_day := He.noat_ok (c.1.fact 65 (f := .noat "Put" "day"))
  n_Put_number := He.noat_ok (c.1.fact 66 (f := .noat "Put" "number"))
  n_Put_feature := He.noat_ok (c.1.fact 67 (f := .noat "Put" "feature"))
  n_Put_was := He.noat_ok (c.1.fact 68 (f := .noat "Put" "was"))
  n_Out_day := He.noat_ok (c.1.fact 69 (f := .noat "Out" "day"))
  n_Out_number := He.noat_ok (c.1.fact 70 (f := .noat "Out" "number"))
  n_Issue_day := He.noat_ok (c.1.fact 71 (f := .noat "Issue" "day"))
  n_Issue_sheet := He.noat_ok (c.1.fact 72 (f := .noat "Issue" "sheet"))
  n_Issue_features := He.noat_ok (c.1.fact 73 (f := .noat "Issue" "features"))
  n_Logbook_entries := He.noat_ok (c.1.fact 74 (f := .noat "Logbook" "entries"))
  n_Feature_group := He.noat_ok (c.1.fact 75 (f := .noat "Feature" "group"))
  n_Feature_name := He.noat_ok (c.1.fact 76 (f := .noat "Feature" "name"))
  n_Feature_kind := He.noat_ok (c.1.fact 77 (f := .noat "Feature" "kind"))
  n_Feature_places := He.noat_ok (c.1.fact 78 (f := .noat "Feature" "places"))
  n_Feature_box := He.noat_ok (c.1.fact 79 (f := .noat "Feature" "box"))
  i_Put := ins_ok (He.cls_ok (c.1.fact 24 (f := .cls "Put"))) (c.more 7) (c.more 8)
  k_Put_Put := kit_ok (c.more 8)
  k_Put_Out := kit_ok (c.more 9)
  k_Put_Issue := kit_ok (c.more 10)
  i_Out := ins_ok (He.cls_ok (c.1.fact 25 (f := .cls "Out"))) (c.more 11) (c.more 13)
  k_Out_Put := kit_ok (c.more 12)
  k_Out_Out := kit_ok (c.more 13)
  k_Out_Issue := kit_ok (c.more 14)
  i_Issue := ins_ok (He.cls_ok (c.1.fact 26 (f := .cls "Issue"))) (c.more 15) (c.more 18)
  k_Issue_Put := kit_ok (c.more 16)
  k_Issue_Out := kit_ok (c.more 17)
  k_Issue_Issue := kit_ok (c.more 18)
abbrev BindA (x qual : Str) (st : Stmt) (ps : List Str) : Prop := ∀ (kV doc pm : Value) (an : Option Addr) (cdv ct : Value) (us : List Value), us.length = ps.length → bindArgs (PySem.W.fnOf x qual (C8.fnArgs st) (C8.fnBody st) (C8.fnScope st) .none kV doc pm an cdv ct) ⟨us, []⟩ = Pure.pure (ps.zip us)
theorem mk_fun (c : Says K) (i : Nat) {at_ : Str × Option Str} {x qual : Str} {st : Stmt} {ps : List Str} (hd : fnL[i]? = some ⟨at_, x, qual, C8.fnArgs st, C8.fnBody st, C8.fnScope st⟩) (hb : BindA x qual st ps) :
    ∃ fd, C8.Fun K x qual st (fAd K at_) fd ∧ Binds K fd ps [] ∧ ∀ (s : Shared) (us : List Value), us.length = ps.length → BindsTo s fd ⟨us, []⟩ (ps.zip us) := by
  obtain ⟨oc, od, osl, kV, doc, pm, an, cdv, ct, l, k⟩ := c.1.def_ i hd
  have F : C8.Fun K x qual st (fAd K at_) _ := ⟨oc, od, .none, kV, doc, pm, an, cdv, ct, osl, rfl, l, k⟩
  exact ⟨_, F, F.binds rfl hb, fun s us hu => .of_eq (hb _ _ _ _ _ _ us hu)⟩
theorem mk_def (X : K.In h) (G : h.Ns mainGlobals mg) (c : Says K) (i j k : Nat) {x : Str} {st : Stmt} {ps : List Str} (hd : fnL[i]? = some ⟨(x, none), x, x, C8.fnArgs st, C8.fnBody st, C8.fnScope st⟩) (hg : faL[j]? = some (.glo x)) (hk : faL[k]? = some (.keep x)) (hb : BindA x x st ps) :
    ∃ fd, C8.Def K mg x st (ga K x) fd ∧ Binds K fd ps [] ∧ ∀ (s : Shared) (us : List Value), us.length = ps.length → BindsTo s fd ⟨us, []⟩ (ps.zip us) := by
  obtain ⟨fd, F, b, b2⟩ := mk_fun c i hd hb
  exact ⟨fd, ⟨F, He.glo_ok X G (c.1.fact j hg), He.keep_ok (c.1.fact k hk)⟩, b, b2⟩
theorem lookup_nd {β : Type} : ∀ {l : List (Addr × β)} {i : Nat} {a : Addr} {b : β}, (l.map (·.1)).Nodup → l[i]? = some (a, b) → l.lookup a = some b
  | [], i, a, b, _, h => by simp at h
  | p :: l, 0, a, b, nd, h => by
    cases h
    rw [List.lookup_cons, beq_self_eq_true]
  | p :: l, i + 1, a, b, nd, h => by
    rw [List.map_cons, List.nodup_cons] at nd
    have h' : l[i]? = some (a, b) := by simpa using h
    have ne : a ≠ p.1 := fun e => nd.1 (by rw [← e]; exact List.mem_map.mpr ⟨_, List.mem_of_getElem? h', rfl⟩)
    obtain ⟨p1, p2⟩ := p
    rw [List.lookup_cons, beq_eq_false_iff_ne.mpr ne]
    exact lookup_nd nd.2 h'
theorem lookup_mem {β : Type} : ∀ {l : List (Addr × β)} {a : Addr} {b : β}, l.lookup a = some b → (a, b) ∈ l
  | [], a, b, h => by cases h
  | (p1, p2) :: l, a, b, h => by
    rw [List.lookup_cons] at h
    by_cases e : a = p1
    · rw [beq_iff_eq.mpr e] at h
      cases h
      rw [e]; exact List.mem_cons_self
    · rw [beq_eq_false_iff_ne.mpr e] at h
      exact List.mem_cons_of_mem _ (lookup_mem h)
theorem held_of {P : Program} {w : World} {base : Heap} {k : Nat} {x : Str} {sp : Sp} {a : Addr} (c : C8.Cal P w K mg base k x sp []) (hk : k ≤ 7) (hm : mg x = some (.ref a)) : Held P w K mg base 7 a sp := by
  obtain ⟨f, fd, ps, ds, F, e, kp, b, d⟩ := c.ex
  rw [hm] at e
  cases e
  cases d
  exact ⟨fd, ps, F.mono hk, kp, b⟩
def spL (K : PySem.W.Frag) : List (Addr × Sp) := [(ga K "put", sp_put K (adOf K)), (ga K "take_out", sp_take_out K (adOf K)), (ga K "issue", sp_issue K (adOf K)), (ga K "undo", sp_undo K (adOf K)), (ga K "tell_land", sp_tell_land K (adOf K)), (ga K "tell_feature", sp_tell_feature K (adOf K)), (ga K "tell_text", sp_tell_text K (adOf K)), (ga K "tell_now", sp_tell_now K (adOf K)), (ga K "tell_old", sp_tell_old K (adOf K)), (ga K "tell_olds", sp_tell_olds K (adOf K)), (ga K "tell_changes", sp_tell_changes K (adOf K)), (ga K "tell_history", sp_tell_history K (adOf K)), (ga K "tell_editions", sp_tell_editions K (adOf K)), (ga K "tell_sheets", sp_tell_sheets K (adOf K)), (ga K "tell_torn", sp_tell_torn K (adOf K)), (ga K "tell_last", sp_tell_last K (adOf K))]
theorem all_ok (X : K.In h) (G : h.Ns mainGlobals mg) (c : Says K) {P : Program} {w : World} : ∃ fd : FuncData, (∀ (s : Shared) (us : List Value), us.length = (["calls"] : List Str).length → BindsTo s fd ⟨us, []⟩ ((["calls"] : List Str).zip us)) ∧ ∀ base : Heap, FnOk P w K mg base C8.CX0 8 (ga K "answers") fd ["calls"] (sp_answers K (adOf K)) := by
  have T := txt_of X G c
  obtain ⟨fd_Put_init, F_Put_init, b_Put_init, q_Put_init⟩ := mk_fun (st := s_Put_init) (ps := ["self", "day", "number", "feature", "was"]) c 0 rfl (fun _ _ _ _ _ _ us hl => match us, hl with | [_, _, _, _, _], _ => rfl)
  obtain ⟨fd_Out_init, F_Out_init, b_Out_init, q_Out_init⟩ := mk_fun (st := s_Out_init) (ps := ["self", "day", "number"]) c 1 rfl (fun _ _ _ _ _ _ us hl => match us, hl with | [_, _, _], _ => rfl)
  obtain ⟨fd_Issue_init, F_Issue_init, b_Issue_init, q_Issue_init⟩ := mk_fun (st := s_Issue_init) (ps := ["self", "day", "sheet", "features"]) c 2 rfl (fun _ _ _ _ _ _ us hl => match us, hl with | [_, _, _, _], _ => rfl)
  obtain ⟨fd_Logbook_init, F_Logbook_init, b_Logbook_init, q_Logbook_init⟩ := mk_fun (st := s_Logbook_init) (ps := ["self"]) c 3 rfl (fun _ _ _ _ _ _ us hl => match us, hl with | [_], _ => rfl)
  obtain ⟨fd_Logbook_enter, F_Logbook_enter, b_Logbook_enter, q_Logbook_enter⟩ := mk_fun (st := s_Logbook_enter) (ps := ["self", "entry"]) c 4 rfl (fun _ _ _ _ _ _ us hl => match us, hl with | [_, _], _ => rfl)
  obtain ⟨fd_Logbook_take_back, F_Logbook_take_back, b_Logbook_take_back, q_Logbook_take_back⟩ := mk_fun (st := s_Logbook_take_back) (ps := ["self"]) c 5 rfl (fun _ _ _ _ _ _ us hl => match us, hl with | [_], _ => rfl)
  obtain ⟨fd_Logbook_is_full, F_Logbook_is_full, b_Logbook_is_full, q_Logbook_is_full⟩ := mk_fun (st := s_Logbook_is_full) (ps := ["self"]) c 6 rfl (fun _ _ _ _ _ _ us hl => match us, hl with | [_], _ => rfl)
  obtain ⟨fd_Logbook_last_day, F_Logbook_last_day, b_Logbook_last_day, q_Logbook_last_day⟩ := mk_fun (st := s_Logbook_last_day) (ps := ["self"]) c 7 rfl (fun _ _ _ _ _ _ us hl => match us, hl with | [_], _ => rfl)
  obtain ⟨fd_Logbook_up_to, F_Logbook_up_to, b_Logbook_up_to, q_Logbook_up_to⟩ := mk_fun (st := s_Logbook_up_to) (ps := ["self", "day"]) c 8 rfl (fun _ _ _ _ _ _ us hl => match us, hl with | [_, _], _ => rfl)
  obtain ⟨fd_code_fault, F_code_fault, b_code_fault, q_code_fault⟩ := mk_def (st := s_code_fault) (ps := ["code"]) X G c 9 90 91 rfl rfl rfl (fun _ _ _ _ _ _ us hl => match us, hl with | [_], _ => rfl)
  obtain ⟨fd_sheet_of, F_sheet_of, b_sheet_of, q_sheet_of⟩ := mk_def (st := s_sheet_of) (ps := ["code"]) X G c 10 92 93 rfl rfl rfl (fun _ _ _ _ _ _ us hl => match us, hl with | [_], _ => rfl)
  obtain ⟨fd_code_bytes, F_code_bytes, b_code_bytes, q_code_bytes⟩ := mk_def (st := s_code_bytes) (ps := ["sheet"]) X G c 11 94 95 rfl rfl rfl (fun _ _ _ _ _ _ us hl => match us, hl with | [_], _ => rfl)
  obtain ⟨fd_quarters_of, F_quarters_of, b_quarters_of, q_quarters_of⟩ := mk_def (st := s_quarters_of) (ps := ["sheet"]) X G c 12 96 97 rfl rfl rfl (fun _ _ _ _ _ _ us hl => match us, hl with | [_], _ => rfl)
  obtain ⟨fd_ground_of, F_ground_of, b_ground_of, q_ground_of⟩ := mk_def (st := s_ground_of) (ps := ["sheet"]) X G c 13 98 99 rfl rfl rfl (fun _ _ _ _ _ _ us hl => match us, hl with | [_], _ => rfl)
  obtain ⟨fd_is_day, F_is_day, b_is_day, q_is_day⟩ := mk_def (st := s_is_day) (ps := ["day"]) X G c 14 100 101 rfl rfl rfl (fun _ _ _ _ _ _ us hl => match us, hl with | [_], _ => rfl)
  obtain ⟨fd_is_number, F_is_number, b_is_number, q_is_number⟩ := mk_def (st := s_is_number) (ps := ["number"]) X G c 15 102 103 rfl rfl rfl (fun _ _ _ _ _ _ us hl => match us, hl with | [_], _ => rfl)
  obtain ⟨fd_turn, F_turn, b_turn, q_turn⟩ := mk_def (st := s_turn) (ps := ["p", "q", "r"]) X G c 16 104 105 rfl rfl rfl (fun _ _ _ _ _ _ us hl => match us, hl with | [_, _, _], _ => rfl)
  obtain ⟨fd_in_box, F_in_box, b_in_box, q_in_box⟩ := mk_def (st := s_in_box) (ps := ["p", "q", "r"]) X G c 17 106 107 rfl rfl rfl (fun _ _ _ _ _ _ us hl => match us, hl with | [_, _, _], _ => rfl)
  obtain ⟨fd_ways_of, F_ways_of, b_ways_of, q_ways_of⟩ := mk_def (st := s_ways_of) (ps := ["places"]) X G c 18 108 109 rfl rfl rfl (fun _ _ _ _ _ _ us hl => match us, hl with | [_], _ => rfl)
  obtain ⟨fd_box_of, F_box_of, b_box_of, q_box_of⟩ := mk_def (st := s_box_of) (ps := ["places"]) X G c 19 110 111 rfl rfl rfl (fun _ _ _ _ _ _ us hl => match us, hl with | [_], _ => rfl)
  obtain ⟨fd_alike, F_alike, b_alike, q_alike⟩ := mk_def (st := s_alike) (ps := ["one", "other"]) X G c 20 112 113 rfl rfl rfl (fun _ _ _ _ _ _ us hl => match us, hl with | [_, _], _ => rfl)
  obtain ⟨fd_boxes_apart, F_boxes_apart, b_boxes_apart, q_boxes_apart⟩ := mk_def (st := s_boxes_apart) (ps := ["box", "ground"]) X G c 21 114 115 rfl rfl rfl (fun _ _ _ _ _ _ us hl => match us, hl with | [_, _], _ => rfl)
  obtain ⟨fd_bytes_of, F_bytes_of, b_bytes_of, q_bytes_of⟩ := mk_def (st := s_bytes_of) (ps := ["text"]) X G c 22 116 117 rfl rfl rfl (fun _ _ _ _ _ _ us hl => match us, hl with | [_], _ => rfl)
  obtain ⟨fd_shape_text, F_shape_text, b_shape_text, q_shape_text⟩ := mk_def (st := s_shape_text) (ps := ["feature"]) X G c 23 118 119 rfl rfl rfl (fun _ _ _ _ _ _ us hl => match us, hl with | [_], _ => rfl)
  obtain ⟨fd_counted, F_counted, b_counted, q_counted⟩ := mk_def (st := s_counted) (ps := ["numbers"]) X G c 24 120 121 rfl rfl rfl (fun _ _ _ _ _ _ us hl => match us, hl with | [_], _ => rfl)
  obtain ⟨fd_is_name, F_is_name, b_is_name, q_is_name⟩ := mk_def (st := s_is_name) (ps := ["name"]) X G c 25 122 123 rfl rfl rfl (fun _ _ _ _ _ _ us hl => match us, hl with | [_], _ => rfl)
  obtain ⟨fd_are_places, F_are_places, b_are_places, q_are_places⟩ := mk_def (st := s_are_places) (ps := ["told"]) X G c 26 124 125 rfl rfl rfl (fun _ _ _ _ _ _ us hl => match us, hl with | [_], _ => rfl)
  obtain ⟨fd_rows_from, F_rows_from, b_rows_from, q_rows_from⟩ := mk_def (st := s_rows_from) (ps := ["calls", "start", "many"]) X G c 27 126 127 rfl rfl rfl (fun _ _ _ _ _ _ us hl => match us, hl with | [_, _, _], _ => rfl)
  obtain ⟨fd_Logbook_land_of, F_Logbook_land_of, b_Logbook_land_of, q_Logbook_land_of⟩ := mk_fun (st := s_Logbook_land_of) (ps := ["self", "day"]) c 28 rfl (fun _ _ _ _ _ _ us hl => match us, hl with | [_, _], _ => rfl)
  obtain ⟨fd_Logbook_issues, F_Logbook_issues, b_Logbook_issues, q_Logbook_issues⟩ := mk_fun (st := s_Logbook_issues) (ps := ["self", "day"]) c 29 rfl (fun _ _ _ _ _ _ us hl => match us, hl with | [_, _], _ => rfl)
  obtain ⟨fd_codes_told, F_codes_told, b_codes_told, q_codes_told⟩ := mk_def (st := s_codes_told) (ps := ["sheets"]) X G c 30 130 131 rfl rfl rfl (fun _ _ _ _ _ _ us hl => match us, hl with | [_], _ => rfl)
  obtain ⟨fd_refusal, F_refusal, b_refusal, q_refusal⟩ := mk_def (st := s_refusal) (ps := ["in_bounds", "codes"]) X G c 31 132 133 rfl rfl rfl (fun _ _ _ _ _ _ us hl => match us, hl with | [_, _], _ => rfl)
  obtain ⟨fd_on_way, F_on_way, b_on_way, q_on_way⟩ := mk_def (st := s_on_way) (ps := ["p", "q", "r"]) X G c 32 134 135 rfl rfl rfl (fun _ _ _ _ _ _ us hl => match us, hl with | [_, _, _], _ => rfl)
  obtain ⟨fd_parted, F_parted, b_parted, q_parted⟩ := mk_def (st := s_parted) (ps := ["p", "q", "r", "s"]) X G c 33 136 137 rfl rfl rfl (fun _ _ _ _ _ _ us hl => match us, hl with | [_, _, _, _], _ => rfl)
  obtain ⟨fd_goes_back, F_goes_back, b_goes_back, q_goes_back⟩ := mk_def (st := s_goes_back) (ps := ["a", "b", "c"]) X G c 34 138 139 rfl rfl rfl (fun _ _ _ _ _ _ us hl => match us, hl with | [_, _, _], _ => rfl)
  obtain ⟨fd_sides_of, F_sides_of, b_sides_of, q_sides_of⟩ := mk_def (st := s_sides_of) (ps := ["ring"]) X G c 35 140 141 rfl rfl rfl (fun _ _ _ _ _ _ us hl => match us, hl with | [_], _ => rfl)
  obtain ⟨fd_is_line, F_is_line, b_is_line, q_is_line⟩ := mk_def (st := s_is_line) (ps := ["places"]) X G c 36 142 143 rfl rfl rfl (fun _ _ _ _ _ _ us hl => match us, hl with | [_], _ => rfl)
  obtain ⟨fd_Feature_init, F_Feature_init, b_Feature_init, q_Feature_init⟩ := mk_fun (st := s_Feature_init) (ps := ["self", "group", "name", "kind", "places"]) c 37 rfl (fun _ _ _ _ _ _ us hl => match us, hl with | [_, _, _, _, _], _ => rfl)
  obtain ⟨fd_way_touches, F_way_touches, b_way_touches, q_way_touches⟩ := mk_def (st := s_way_touches) (ps := ["p", "q", "ground"]) X G c 38 144 145 rfl rfl rfl (fun _ _ _ _ _ _ us hl => match us, hl with | [_, _, _], _ => rfl)
  obtain ⟨fd_lies_within, F_lies_within, b_lies_within, q_lies_within⟩ := mk_def (st := s_lies_within) (ps := ["place", "sides"]) X G c 39 146 147 rfl rfl rfl (fun _ _ _ _ _ _ us hl => match us, hl with | [_, _], _ => rfl)
  obtain ⟨fd_changes, F_changes, b_changes, q_changes⟩ := mk_def (st := s_changes) (ps := ["before", "after"]) X G c 40 148 149 rfl rfl rfl (fun _ _ _ _ _ _ us hl => match us, hl with | [_, _], _ => rfl)
  obtain ⟨fd_feature_line, F_feature_line, b_feature_line, q_feature_line⟩ := mk_def (st := s_feature_line) (ps := ["number", "feature"]) X G c 41 150 151 rfl rfl rfl (fun _ _ _ _ _ _ us hl => match us, hl with | [_, _], _ => rfl)
  obtain ⟨fd_tell_history, F_tell_history, b_tell_history, q_tell_history⟩ := mk_def (st := s_tell_history) (ps := ["log", "numbers", "rows"]) X G c 42 152 153 rfl rfl rfl (fun _ _ _ _ _ _ us hl => match us, hl with | [_, _, _], _ => rfl)
  obtain ⟨fd_tell_last, F_tell_last, b_tell_last, q_tell_last⟩ := mk_def (st := s_tell_last) (ps := ["log", "numbers", "rows"]) X G c 43 154 155 rfl rfl rfl (fun _ _ _ _ _ _ us hl => match us, hl with | [_, _, _], _ => rfl)
  obtain ⟨fd_put_in_bounds, F_put_in_bounds, b_put_in_bounds, q_put_in_bounds⟩ := mk_def (st := s_put_in_bounds) (ps := ["day", "number", "group", "kind"]) X G c 44 156 157 rfl rfl rfl (fun _ _ _ _ _ _ us hl => match us, hl with | [_, _, _, _], _ => rfl)
  obtain ⟨fd_undo, F_undo, b_undo, q_undo⟩ := mk_def (st := s_undo) (ps := ["log", "numbers", "rows"]) X G c 45 158 159 rfl rfl rfl (fun _ _ _ _ _ _ us hl => match us, hl with | [_, _, _], _ => rfl)
  obtain ⟨fd_Logbook_editions, F_Logbook_editions, b_Logbook_editions, q_Logbook_editions⟩ := mk_fun (st := s_Logbook_editions) (ps := ["self", "sheet", "day"]) c 46 rfl (fun _ _ _ _ _ _ us hl => match us, hl with | [_, _, _], _ => rfl)
  obtain ⟨fd_Logbook_latest_editions, F_Logbook_latest_editions, b_Logbook_latest_editions, q_Logbook_latest_editions⟩ := mk_fun (st := s_Logbook_latest_editions) (ps := ["self", "day"]) c 47 rfl (fun _ _ _ _ _ _ us hl => match us, hl with | [_, _], _ => rfl)
  obtain ⟨fd_ways_meet, F_ways_meet, b_ways_meet, q_ways_meet⟩ := mk_def (st := s_ways_meet) (ps := ["a", "b", "c", "d"]) X G c 48 162 163 rfl rfl rfl (fun _ _ _ _ _ _ us hl => match us, hl with | [_, _, _, _], _ => rfl)
  obtain ⟨fd_twice_area, F_twice_area, b_twice_area, q_twice_area⟩ := mk_def (st := s_twice_area) (ps := ["ring"]) X G c 49 164 165 rfl rfl rfl (fun _ _ _ _ _ _ us hl => match us, hl with | [_], _ => rfl)
  obtain ⟨fd_any_touches, F_any_touches, b_any_touches, q_any_touches⟩ := mk_def (st := s_any_touches) (ps := ["ways", "ground"]) X G c 50 166 167 rfl rfl rfl (fun _ _ _ _ _ _ us hl => match us, hl with | [_, _], _ => rfl)
  obtain ⟨fd_sheet_text, F_sheet_text, b_sheet_text, q_sheet_text⟩ := mk_def (st := s_sheet_text) (ps := ["sheet", "edition", "day", "features"]) X G c 51 168 169 rfl rfl rfl (fun _ _ _ _ _ _ us hl => match us, hl with | [_, _, _, _], _ => rfl)
  obtain ⟨fd_tell_land, F_tell_land, b_tell_land, q_tell_land⟩ := mk_def (st := s_tell_land) (ps := ["log", "numbers", "rows"]) X G c 52 170 171 rfl rfl rfl (fun _ _ _ _ _ _ us hl => match us, hl with | [_, _, _], _ => rfl)
  obtain ⟨fd_tell_feature, F_tell_feature, b_tell_feature, q_tell_feature⟩ := mk_def (st := s_tell_feature) (ps := ["log", "numbers", "rows"]) X G c 53 172 173 rfl rfl rfl (fun _ _ _ _ _ _ us hl => match us, hl with | [_, _, _], _ => rfl)
  obtain ⟨fd_take_out, F_take_out, b_take_out, q_take_out⟩ := mk_def (st := s_take_out) (ps := ["log", "numbers", "rows"]) X G c 54 174 175 rfl rfl rfl (fun _ _ _ _ _ _ us hl => match us, hl with | [_, _, _], _ => rfl)
  obtain ⟨fd_side_fits, F_side_fits, b_side_fits, q_side_fits⟩ := mk_def (st := s_side_fits) (ps := ["sides", "one", "other"]) X G c 55 176 177 rfl rfl rfl (fun _ _ _ _ _ _ us hl => match us, hl with | [_, _, _], _ => rfl)
  obtain ⟨fd_leftwards, F_leftwards, b_leftwards, q_leftwards⟩ := mk_def (st := s_leftwards) (ps := ["ring"]) X G c 56 178 179 rfl rfl rfl (fun _ _ _ _ _ _ us hl => match us, hl with | [_], _ => rfl)
  obtain ⟨fd_stands_on, F_stands_on, b_stands_on, q_stands_on⟩ := mk_def (st := s_stands_on) (ps := ["feature", "ground"]) X G c 57 180 181 rfl rfl rfl (fun _ _ _ _ _ _ us hl => match us, hl with | [_, _], _ => rfl)
  obtain ⟨fd_tell_text, F_tell_text, b_tell_text, q_tell_text⟩ := mk_def (st := s_tell_text) (ps := ["log", "numbers", "rows"]) X G c 58 182 183 rfl rfl rfl (fun _ _ _ _ _ _ us hl => match us, hl with | [_, _, _], _ => rfl)
  obtain ⟨fd_tell_editions, F_tell_editions, b_tell_editions, q_tell_editions⟩ := mk_def (st := s_tell_editions) (ps := ["log", "numbers", "rows"]) X G c 59 184 185 rfl rfl rfl (fun _ _ _ _ _ _ us hl => match us, hl with | [_, _, _], _ => rfl)
  obtain ⟨fd_tell_torn, F_tell_torn, b_tell_torn, q_tell_torn⟩ := mk_def (st := s_tell_torn) (ps := ["log", "numbers", "rows"]) X G c 60 186 187 rfl rfl rfl (fun _ _ _ _ _ _ us hl => match us, hl with | [_, _, _], _ => rfl)
  obtain ⟨fd_is_simple, F_is_simple, b_is_simple, q_is_simple⟩ := mk_def (st := s_is_simple) (ps := ["ring"]) X G c 61 188 189 rfl rfl rfl (fun _ _ _ _ _ _ us hl => match us, hl with | [_], _ => rfl)
  obtain ⟨fd_features_on, F_features_on, b_features_on, q_features_on⟩ := mk_def (st := s_features_on) (ps := ["land", "sheet"]) X G c 62 190 191 rfl rfl rfl (fun _ _ _ _ _ _ us hl => match us, hl with | [_, _], _ => rfl)
  obtain ⟨fd_sheets_of, F_sheets_of, b_sheets_of, q_sheets_of⟩ := mk_def (st := s_sheets_of) (ps := ["feature", "series"]) X G c 63 192 193 rfl rfl rfl (fun _ _ _ _ _ _ us hl => match us, hl with | [_, _], _ => rfl)
  obtain ⟨fd_kept_places, F_kept_places, b_kept_places, q_kept_places⟩ := mk_def (st := s_kept_places) (ps := ["kind", "places"]) X G c 64 194 195 rfl rfl rfl (fun _ _ _ _ _ _ us hl => match us, hl with | [_, _], _ => rfl)
  obtain ⟨fd_tell_now, F_tell_now, b_tell_now, q_tell_now⟩ := mk_def (st := s_tell_now) (ps := ["log", "numbers", "rows"]) X G c 65 196 197 rfl rfl rfl (fun _ _ _ _ _ _ us hl => match us, hl with | [_, _, _], _ => rfl)
  obtain ⟨fd_changes_since, F_changes_since, b_changes_since, q_changes_since⟩ := mk_def (st := s_changes_since) (ps := ["log", "sheet", "day"]) X G c 66 198 199 rfl rfl rfl (fun _ _ _ _ _ _ us hl => match us, hl with | [_, _, _], _ => rfl)
  obtain ⟨fd_tell_olds, F_tell_olds, b_tell_olds, q_tell_olds⟩ := mk_def (st := s_tell_olds) (ps := ["log", "numbers", "rows"]) X G c 67 200 201 rfl rfl rfl (fun _ _ _ _ _ _ us hl => match us, hl with | [_, _, _], _ => rfl)
  obtain ⟨fd_tell_sheets, F_tell_sheets, b_tell_sheets, q_tell_sheets⟩ := mk_def (st := s_tell_sheets) (ps := ["log", "numbers", "rows"]) X G c 68 202 203 rfl rfl rfl (fun _ _ _ _ _ _ us hl => match us, hl with | [_, _, _], _ => rfl)
  obtain ⟨fd_issue, F_issue, b_issue, q_issue⟩ := mk_def (st := s_issue) (ps := ["log", "numbers", "rows"]) X G c 69 204 205 rfl rfl rfl (fun _ _ _ _ _ _ us hl => match us, hl with | [_, _, _], _ => rfl)
  obtain ⟨fd_tell_old, F_tell_old, b_tell_old, q_tell_old⟩ := mk_def (st := s_tell_old) (ps := ["log", "numbers", "rows"]) X G c 70 206 207 rfl rfl rfl (fun _ _ _ _ _ _ us hl => match us, hl with | [_, _, _], _ => rfl)
  obtain ⟨fd_tell_changes, F_tell_changes, b_tell_changes, q_tell_changes⟩ := mk_def (st := s_tell_changes) (ps := ["log", "numbers", "rows"]) X G c 71 208 209 rfl rfl rfl (fun _ _ _ _ _ _ us hl => match us, hl with | [_, _, _], _ => rfl)
  obtain ⟨fd_put, F_put, b_put, q_put⟩ := mk_def (st := s_put) (ps := ["log", "numbers", "rows"]) X G c 72 210 211 rfl rfl rfl (fun _ _ _ _ _ _ us hl => match us, hl with | [_, _, _], _ => rfl)
  obtain ⟨fd_answers, F_answers, b_answers, q_answers⟩ := mk_def (st := s_answers) (ps := ["calls"]) X G c 73 212 213 rfl rfl rfl (fun _ _ _ _ _ _ us hl => match us, hl with | [_], _ => rfl)
  refine ⟨fd_answers, q_answers, fun base => ?_⟩
  have c_Put : C8.Mak P w K mg base 1 "Put" (ga K "Put") (sp_Put_init K (adOf K)) [] := ok_Put_init T (He.mkr_ok (c.1.fact 80 (f := .mkr "Put"))) F_Put_init b_Put_init
  have c_Out : C8.Mak P w K mg base 1 "Out" (ga K "Out") (sp_Out_init K (adOf K)) [] := ok_Out_init T (He.mkr_ok (c.1.fact 81 (f := .mkr "Out"))) F_Out_init b_Out_init
  have c_Issue : C8.Mak P w K mg base 1 "Issue" (ga K "Issue") (sp_Issue_init K (adOf K)) [] := ok_Issue_init T (He.mkr_ok (c.1.fact 82 (f := .mkr "Issue"))) F_Issue_init b_Issue_init
  have c_Logbook : C8.Mak P w K mg base 1 "Logbook" (ga K "Logbook") (sp_Logbook_init K (adOf K)) [] := ok_Logbook_init T (He.mkr_ok (c.1.fact 83 (f := .mkr "Logbook"))) F_Logbook_init b_Logbook_init
  have c_Logbook_enter : C8.Met P w K mg base 1 (ga K "Logbook") "enter" (sp_Logbook_enter K (adOf K)) [] := ok_Logbook_enter T (He.meth_ok (c.1.fact 85 (f := .meth "Logbook" "enter"))) F_Logbook_enter b_Logbook_enter
  have c_Logbook_take_back : C8.Met P w K mg base 1 (ga K "Logbook") "take_back" (sp_Logbook_take_back K (adOf K)) [] := ok_Logbook_take_back T (He.meth_ok (c.1.fact 86 (f := .meth "Logbook" "take_back"))) F_Logbook_take_back b_Logbook_take_back
  have c_Logbook_is_full : C8.Met P w K mg base 1 (ga K "Logbook") "is_full" (sp_Logbook_is_full K (adOf K)) [] := ok_Logbook_is_full T (He.meth_ok (c.1.fact 87 (f := .meth "Logbook" "is_full"))) F_Logbook_is_full b_Logbook_is_full
  have c_Logbook_last_day : C8.Met P w K mg base 1 (ga K "Logbook") "last_day" (sp_Logbook_last_day K (adOf K)) [] := ok_Logbook_last_day T (He.meth_ok (c.1.fact 88 (f := .meth "Logbook" "last_day"))) F_Logbook_last_day b_Logbook_last_day
  have c_Logbook_up_to : C8.Met P w K mg base 1 (ga K "Logbook") "up_to" (sp_Logbook_up_to K (adOf K)) [] := ok_Logbook_up_to T (He.meth_ok (c.1.fact 89 (f := .meth "Logbook" "up_to"))) F_Logbook_up_to b_Logbook_up_to
  have c_code_fault : C8.Cal P w K mg base 1 "code_fault" (sp_code_fault K (adOf K)) [] := ok_code_fault T F_code_fault b_code_fault
  have c_sheet_of : C8.Cal P w K mg base 1 "sheet_of" (sp_sheet_of K (adOf K)) [] := ok_sheet_of T F_sheet_of b_sheet_of
  have c_code_bytes : C8.Cal P w K mg base 1 "code_bytes" (sp_code_bytes K (adOf K)) [] := ok_code_bytes T F_code_bytes b_code_bytes
  have c_quarters_of : C8.Cal P w K mg base 1 "quarters_of" (sp_quarters_of K (adOf K)) [] := ok_quarters_of T F_quarters_of b_quarters_of
  have c_ground_of : C8.Cal P w K mg base 1 "ground_of" (sp_ground_of K (adOf K)) [] := ok_ground_of T F_ground_of b_ground_of
  have c_is_day : C8.Cal P w K mg base 1 "is_day" (sp_is_day K (adOf K)) [] := ok_is_day T F_is_day b_is_day
  have c_is_number : C8.Cal P w K mg base 1 "is_number" (sp_is_number K (adOf K)) [] := ok_is_number T F_is_number b_is_number
  have c_turn : C8.Cal P w K mg base 1 "turn" (sp_turn K (adOf K)) [] := ok_turn T F_turn b_turn
  have c_in_box : C8.Cal P w K mg base 1 "in_box" (sp_in_box K (adOf K)) [] := ok_in_box T F_in_box b_in_box
  have c_ways_of : C8.Cal P w K mg base 1 "ways_of" (sp_ways_of K (adOf K)) [] := ok_ways_of T F_ways_of b_ways_of
  have c_box_of : C8.Cal P w K mg base 1 "box_of" (sp_box_of K (adOf K)) [] := ok_box_of T F_box_of b_box_of
  have c_alike : C8.Cal P w K mg base 1 "alike" (sp_alike K (adOf K)) [] := ok_alike T F_alike b_alike
  have c_boxes_apart : C8.Cal P w K mg base 1 "boxes_apart" (sp_boxes_apart K (adOf K)) [] := ok_boxes_apart T F_boxes_apart b_boxes_apart
  have c_bytes_of : C8.Cal P w K mg base 1 "bytes_of" (sp_bytes_of K (adOf K)) [] := ok_bytes_of T F_bytes_of b_bytes_of
  have c_shape_text : C8.Cal P w K mg base 1 "shape_text" (sp_shape_text K (adOf K)) [] := ok_shape_text T F_shape_text b_shape_text
  have c_counted : C8.Cal P w K mg base 1 "counted" (sp_counted K (adOf K)) [] := ok_counted T F_counted b_counted
  have c_is_name : C8.Cal P w K mg base 1 "is_name" (sp_is_name K (adOf K)) [] := ok_is_name T F_is_name b_is_name
  have c_are_places : C8.Cal P w K mg base 1 "are_places" (sp_are_places K (adOf K)) [] := ok_are_places T F_are_places b_are_places
  have c_rows_from : C8.Cal P w K mg base 1 "rows_from" (sp_rows_from K (adOf K)) [] := ok_rows_from T F_rows_from b_rows_from
  have c_Logbook_land_of : C8.Met P w K mg base 2 (ga K "Logbook") "land_of" (sp_Logbook_land_of K (adOf K)) [] := ok_Logbook_land_of T c_Logbook_up_to (He.meth_ok (c.1.fact 128 (f := .meth "Logbook" "land_of"))) F_Logbook_land_of b_Logbook_land_of
  have c_Logbook_issues : C8.Met P w K mg base 2 (ga K "Logbook") "issues" (sp_Logbook_issues K (adOf K)) [] := ok_Logbook_issues T c_Logbook_up_to (He.meth_ok (c.1.fact 129 (f := .meth "Logbook" "issues"))) F_Logbook_issues b_Logbook_issues
  have c_codes_told : C8.Cal P w K mg base 2 "codes_told" (sp_codes_told K (adOf K)) [] := ok_codes_told T c_code_bytes F_codes_told b_codes_told
  have c_refusal : C8.Cal P w K mg base 2 "refusal" (sp_refusal K (adOf K)) [] := ok_refusal T c_code_fault F_refusal b_refusal
  have c_on_way : C8.Cal P w K mg base 2 "on_way" (sp_on_way K (adOf K)) [] := ok_on_way T c_in_box c_turn F_on_way b_on_way
  have c_parted : C8.Cal P w K mg base 2 "parted" (sp_parted K (adOf K)) [] := ok_parted T c_turn F_parted b_parted
  have c_goes_back : C8.Cal P w K mg base 2 "goes_back" (sp_goes_back K (adOf K)) [] := ok_goes_back T c_turn F_goes_back b_goes_back
  have c_sides_of : C8.Cal P w K mg base 2 "sides_of" (sp_sides_of K (adOf K)) [] := ok_sides_of T c_ways_of F_sides_of b_sides_of
  have c_is_line : C8.Cal P w K mg base 2 "is_line" (sp_is_line K (adOf K)) [] := ok_is_line T c_ways_of F_is_line b_is_line
  have c_Feature : C8.Mak P w K mg base 2 "Feature" (ga K "Feature") (sp_Feature_init K (adOf K)) [] := ok_Feature_init T c_box_of (He.mkr_ok (c.1.fact 84 (f := .mkr "Feature"))) F_Feature_init b_Feature_init
  have c_way_touches : C8.Cal P w K mg base 2 "way_touches" (sp_way_touches K (adOf K)) [] := ok_way_touches T c_turn F_way_touches b_way_touches
  have c_lies_within : C8.Cal P w K mg base 2 "lies_within" (sp_lies_within K (adOf K)) [] := ok_lies_within T c_turn F_lies_within b_lies_within
  have c_changes : C8.Cal P w K mg base 2 "changes" (sp_changes K (adOf K)) [] := ok_changes T c_alike F_changes b_changes
  have c_feature_line : C8.Cal P w K mg base 2 "feature_line" (sp_feature_line K (adOf K)) [] := ok_feature_line T c_bytes_of c_shape_text F_feature_line b_feature_line
  have c_tell_history : C8.Cal P w K mg base 2 "tell_history" (sp_tell_history K (adOf K)) [] := ok_tell_history T c_is_number F_tell_history b_tell_history
  have c_tell_last : C8.Cal P w K mg base 2 "tell_last" (sp_tell_last K (adOf K)) [] := ok_tell_last T c_Logbook_last_day F_tell_last b_tell_last
  have c_put_in_bounds : C8.Cal P w K mg base 2 "put_in_bounds" (sp_put_in_bounds K (adOf K)) [] := ok_put_in_bounds T c_is_day c_is_number F_put_in_bounds b_put_in_bounds
  have c_undo : C8.Cal P w K mg base 2 "undo" (sp_undo K (adOf K)) [] := ok_undo T c_Logbook_take_back F_undo b_undo
  have c_Logbook_editions : C8.Met P w K mg base 3 (ga K "Logbook") "editions" (sp_Logbook_editions K (adOf K)) [] := ok_Logbook_editions T c_Logbook_issues (He.meth_ok (c.1.fact 160 (f := .meth "Logbook" "editions"))) F_Logbook_editions b_Logbook_editions
  have c_Logbook_latest_editions : C8.Met P w K mg base 3 (ga K "Logbook") "latest_editions" (sp_Logbook_latest_editions K (adOf K)) [] := ok_Logbook_latest_editions T c_Logbook_issues (He.meth_ok (c.1.fact 161 (f := .meth "Logbook" "latest_editions"))) F_Logbook_latest_editions b_Logbook_latest_editions
  have c_ways_meet : C8.Cal P w K mg base 3 "ways_meet" (sp_ways_meet K (adOf K)) [] := ok_ways_meet T c_on_way c_parted F_ways_meet b_ways_meet
  have c_twice_area : C8.Cal P w K mg base 3 "twice_area" (sp_twice_area K (adOf K)) [] := ok_twice_area T c_sides_of F_twice_area b_twice_area
  have c_any_touches : C8.Cal P w K mg base 3 "any_touches" (sp_any_touches K (adOf K)) [] := ok_any_touches T c_way_touches F_any_touches b_any_touches
  have c_sheet_text : C8.Cal P w K mg base 3 "sheet_text" (sp_sheet_text K (adOf K)) [] := ok_sheet_text T c_bytes_of c_code_bytes c_feature_line F_sheet_text b_sheet_text
  have c_tell_land : C8.Cal P w K mg base 3 "tell_land" (sp_tell_land K (adOf K)) [] := ok_tell_land T c_Logbook_land_of c_counted c_is_day F_tell_land b_tell_land
  have c_tell_feature : C8.Cal P w K mg base 3 "tell_feature" (sp_tell_feature K (adOf K)) [] := ok_tell_feature T c_Logbook_land_of c_is_day c_is_number F_tell_feature b_tell_feature
  have c_take_out : C8.Cal P w K mg base 3 "take_out" (sp_take_out K (adOf K)) [] := ok_take_out T c_Logbook_enter c_Logbook_is_full c_Logbook_land_of c_Logbook_last_day c_Out c_is_day c_is_number F_take_out b_take_out
  have c_side_fits : C8.Cal P w K mg base 4 "side_fits" (sp_side_fits K (adOf K)) [] := ok_side_fits T c_goes_back c_ways_meet F_side_fits b_side_fits
  have c_leftwards : C8.Cal P w K mg base 4 "leftwards" (sp_leftwards K (adOf K)) [] := ok_leftwards T c_twice_area F_leftwards b_leftwards
  have c_stands_on : C8.Cal P w K mg base 4 "stands_on" (sp_stands_on K (adOf K)) [] := ok_stands_on T c_any_touches c_boxes_apart c_lies_within c_sides_of c_ways_of F_stands_on b_stands_on
  have c_tell_text : C8.Cal P w K mg base 4 "tell_text" (sp_tell_text K (adOf K)) [] := ok_tell_text T c_Logbook_editions c_counted c_refusal c_sheet_of c_sheet_text F_tell_text b_tell_text
  have c_tell_editions : C8.Cal P w K mg base 4 "tell_editions" (sp_tell_editions K (adOf K)) [] := ok_tell_editions T c_Logbook_editions c_counted c_refusal c_sheet_of F_tell_editions b_tell_editions
  have c_tell_torn : C8.Cal P w K mg base 4 "tell_torn" (sp_tell_torn K (adOf K)) [] := ok_tell_torn T c_Logbook_editions c_changes c_counted c_refusal c_sheet_of F_tell_torn b_tell_torn
  have c_is_simple : C8.Cal P w K mg base 5 "is_simple" (sp_is_simple K (adOf K)) [] := ok_is_simple T c_side_fits c_sides_of F_is_simple b_is_simple
  have c_features_on : C8.Cal P w K mg base 5 "features_on" (sp_features_on K (adOf K)) [] := ok_features_on T c_ground_of c_stands_on F_features_on b_features_on
  have c_sheets_of : C8.Cal P w K mg base 5 "sheets_of" (sp_sheets_of K (adOf K)) [] := ok_sheets_of T c_ground_of c_quarters_of c_stands_on F_sheets_of b_sheets_of
  have c_kept_places : C8.Cal P w K mg base 6 "kept_places" (sp_kept_places K (adOf K)) [] := ok_kept_places T c_is_line c_is_simple c_leftwards F_kept_places b_kept_places
  have c_tell_now : C8.Cal P w K mg base 6 "tell_now" (sp_tell_now K (adOf K)) [] := ok_tell_now T c_Logbook_editions c_Logbook_land_of c_counted c_features_on c_is_day c_refusal c_sheet_of c_sheet_text F_tell_now b_tell_now
  have c_changes_since : C8.Cal P w K mg base 6 "changes_since" (sp_changes_since K (adOf K)) [] := ok_changes_since T c_Logbook_editions c_Logbook_land_of c_changes c_features_on F_changes_since b_changes_since
  have c_tell_olds : C8.Cal P w K mg base 6 "tell_olds" (sp_tell_olds K (adOf K)) [] := ok_tell_olds T c_Logbook_land_of c_Logbook_latest_editions c_changes c_codes_told c_features_on c_is_day F_tell_olds b_tell_olds
  have c_tell_sheets : C8.Cal P w K mg base 6 "tell_sheets" (sp_tell_sheets K (adOf K)) [] := ok_tell_sheets T c_Logbook_land_of c_codes_told c_is_number c_sheets_of F_tell_sheets b_tell_sheets
  have c_issue : C8.Cal P w K mg base 6 "issue" (sp_issue K (adOf K)) [] := ok_issue T c_Issue c_Logbook_editions c_Logbook_enter c_Logbook_is_full c_Logbook_land_of c_Logbook_last_day c_changes c_features_on c_is_day c_refusal c_sheet_of F_issue b_issue
  have c_tell_old : C8.Cal P w K mg base 7 "tell_old" (sp_tell_old K (adOf K)) [] := ok_tell_old T c_changes_since c_is_day c_refusal c_sheet_of F_tell_old b_tell_old
  have c_tell_changes : C8.Cal P w K mg base 7 "tell_changes" (sp_tell_changes K (adOf K)) [] := ok_tell_changes T c_changes_since c_is_day c_refusal c_sheet_of F_tell_changes b_tell_changes
  have c_put : C8.Cal P w K mg base 7 "put" (sp_put K (adOf K)) [] := ok_put T c_Feature c_Logbook_enter c_Logbook_is_full c_Logbook_land_of c_Logbook_last_day c_Put c_are_places c_is_name c_kept_places c_put_in_bounds F_put b_put
  have nd : ((spL K).map (·.1)).Nodup := of_decide_eq_true (c.more 19)
  refine ok_answers T c_Logbook c_rows_from (SA := fun f => (spL K).lookup f) (fun f sp hS => ?_) (fun p n k hs => ?_) F_answers b_answers
  · have hm := lookup_mem hS
    simp only [spL, List.mem_cons, List.not_mem_nil, or_false, Prod.mk.injEq] at hm
    rcases hm with ⟨rfl, rfl⟩ | ⟨rfl, rfl⟩ | ⟨rfl, rfl⟩ | ⟨rfl, rfl⟩ | ⟨rfl, rfl⟩ | ⟨rfl, rfl⟩ | ⟨rfl, rfl⟩ | ⟨rfl, rfl⟩ | ⟨rfl, rfl⟩ | ⟨rfl, rfl⟩ | ⟨rfl, rfl⟩ | ⟨rfl, rfl⟩ | ⟨rfl, rfl⟩ | ⟨rfl, rfl⟩ | ⟨rfl, rfl⟩ | ⟨rfl, rfl⟩
    · exact held_of c_put (by decide) F_put.mgf
    · exact held_of c_take_out (by decide) F_take_out.mgf
    · exact held_of c_issue (by decide) F_issue.mgf
    · exact held_of c_undo (by decide) F_undo.mgf
    · exact held_of c_tell_land (by decide) F_tell_land.mgf
    · exact held_of c_tell_feature (by decide) F_tell_feature.mgf
    · exact held_of c_tell_text (by decide) F_tell_text.mgf
    · exact held_of c_tell_now (by decide) F_tell_now.mgf
    · exact held_of c_tell_old (by decide) F_tell_old.mgf
    · exact held_of c_tell_olds (by decide) F_tell_olds.mgf
    · exact held_of c_tell_changes (by decide) F_tell_changes.mgf
    · exact held_of c_tell_history (by decide) F_tell_history.mgf
    · exact held_of c_tell_editions (by decide) F_tell_editions.mgf
    · exact held_of c_tell_sheets (by decide) F_tell_sheets.mgf
    · exact held_of c_tell_torn (by decide) F_tell_torn.mgf
    · exact held_of c_tell_last (by decide) F_tell_last.mgf
  · rcases Pl.shape_cases hs with ⟨rfl, _, _⟩ | ⟨rfl, _, _⟩ | ⟨rfl, _, _⟩ | ⟨rfl, _, _⟩ | ⟨rfl, _, _⟩ | ⟨rfl, _, _⟩ | ⟨rfl, _, _⟩ | ⟨rfl, _, _⟩ | ⟨rfl, _, _⟩ | ⟨rfl, _, _⟩ | ⟨rfl, _, _⟩ | ⟨rfl, _, _⟩ | ⟨rfl, _, _⟩ | ⟨rfl, _, _⟩ | ⟨rfl, _, _⟩ | ⟨rfl, _, _⟩
    · exact ⟨ga K "put", _, rfl, lookup_nd (i := 0) nd rfl, does_put⟩
    · exact ⟨ga K "take_out", _, rfl, lookup_nd (i := 1) nd rfl, does_out⟩
    · exact ⟨ga K "issue", _, rfl, lookup_nd (i := 2) nd rfl, does_issue⟩
    · exact ⟨ga K "undo", _, rfl, lookup_nd (i := 3) nd rfl, does_undo⟩
    · exact ⟨ga K "tell_land", _, rfl, lookup_nd (i := 4) nd rfl, does_land⟩
    · exact ⟨ga K "tell_feature", _, rfl, lookup_nd (i := 5) nd rfl, does_feature⟩
    · exact ⟨ga K "tell_text", _, rfl, lookup_nd (i := 6) nd rfl, does_text⟩
    · exact ⟨ga K "tell_now", _, rfl, lookup_nd (i := 7) nd rfl, does_now⟩
    · exact ⟨ga K "tell_old", _, rfl, lookup_nd (i := 8) nd rfl, does_old⟩
    · exact ⟨ga K "tell_olds", _, rfl, lookup_nd (i := 9) nd rfl, does_olds⟩
    · exact ⟨ga K "tell_changes", _, rfl, lookup_nd (i := 10) nd rfl, does_changes⟩
    · exact ⟨ga K "tell_history", _, rfl, lookup_nd (i := 11) nd rfl, does_history⟩
    · exact ⟨ga K "tell_editions", _, rfl, lookup_nd (i := 12) nd rfl, does_editions⟩
    · exact ⟨ga K "tell_sheets", _, rfl, lookup_nd (i := 13) nd rfl, does_sheets⟩
    · exact ⟨ga K "tell_torn", _, rfl, lookup_nd (i := 14) nd rfl, does_torn⟩
    · exact ⟨ga K "tell_last", _, rfl, lookup_nd (i := 15) nd rfl, does_last⟩
theorem glo_answers (X : K.In h) (G : h.Ns mainGlobals mg) (c : Says K) : mg "answers" = some (.ref (ga K "answers")) := He.glo_ok X G (c.1.fact 212 (f := .glo "answers"))
end
end Wk
end
/-! ### WHead -/
section
set_option Elab.async false
set_option linter.all false
set_option maxRecDepth 100000
set_option maxHeartbeats 0
/-! what the top leaves -/
namespace Wk
open PySem PySem.W PySem.Calls PyProof.Rows
def hk : Hook where
  α := He.Al × Bool
  obs := fun s => obs2 (He.frG s.heap.get? (frontG s.heap.get? 4 [mainGlobals]))
  val := fun _ => (He.valE fnL, true)
  says := fun _ h => ∃ K : Frag, K.In h ∧ Says K
  of := fun _ _ e => ⟨_, He.frG_in, (Prod.mk.inj e).1, (Prod.mk.inj e).2⟩
  keeps := fun _ _ _ ⟨K, hK, c⟩ k => ⟨K, Frag.In.keeps hK k, c⟩
theorem ob_eq (s : SharedT) : ob s = hk.obs s.abs := by
  have e : HandSHeadRun.getT s = s.abs.heap.get? := funext fun a => HandSHeadRun.getT_eq s a
  unfold ob hk
  rw [e]
def RunAt (w : World) : Prop := ∀ os : OsState, (HandSHeadRun.endF (HandSHeadRun.stepQ (HandSHeadRun.denQ HandSHeadRun.tabQ) Prg w) 6000 Prg w os).map (fun s => (HandSHeadRun.looksF Prg (boot_heap w.params) s.abs, HandSHeadRun.seenQ qv nms (importedModules Prg.main.body) (fun s => xlAt qv [] s && recOk [] s) s.abs, ob s)) = some (true, openGood qv nms, hk.val w)
theorem run (w : World) : RunAt w := fun os => map3 (runL w os) (runS w os) (runO w os)
theorem leftT : LeftO Prg qv nms (fun s => xlAt qv [] s && recOk [] s) hk.obs hk.val 6600 true :=
  HandSHeadRun.left_one (M := 6000) (by kernel_rfl) (by rfl) (fun s => by kernel_rfl) (by rfl) fun w os => by
    have z := run w os
    have eo : ob = fun s => hk.obs s.abs := funext ob_eq
    rw [eo] at z
    simp only [HandSHeadRun.endQ_eq, HandSHeadRun.seenQ_eq]
    exact z
end Wk
end
/-! ### WFin -/
section
set_option Elab.async false
set_option linter.all false
set_option maxRecDepth 100000
set_option maxHeartbeats 8000000
namespace Wk
open PySem PySem.Spec PyProof.Rows L2
open PySem.W (Codec OpenSpec)
/-- the goal of a specification's row, from the promise of its def over what the top has left -/
theorem walk_specE {r : OpenSpec} {k : Nat} {q : Program} {loose : List Str} {XP : (Str → Option Value) → Heap → Prop} {YP : World → Heap → Prop} {d : DefRec} {CX : CXT} {ps : List Str} {sp : PySem.W.Frag → Sp}
    (hwell : r.wellSaid = true) (hlen : r.args.length = ps.length) (hr : Room k callerA)
    (F : ∀ (w : World) (mg : Str → Option Value) (fa : Addr) (h : Heap), YP w h → h.Ns mainGlobals mg → mg d.name = some (.ref fa) →
      ∃ (K : PySem.W.Frag) (fd : FuncData), K.In h ∧ (∀ (s : Shared) (us : List Value), us.length = ps.length → BindsTo s fd ⟨us, []⟩ (ps.zip us)) ∧ ∀ base : Heap, K.In base → base.Ns mainGlobals mg → FnOk r.prog w K mg base CX k fa fd ps (sp K))
    (hsp : ∀ (K : PySem.W.Frag) (H : Hp) (xs : List V) (a : Codec.denoteAll r.args), OnlyF H → Codec.withinAll r.args a = true → Codec.app r.args r.asked a = true → DwAll K H xs (Codec.encAll r.args a) →
      sp K xs H (fun v H' => Dw K H' v (r.ret.enc (Codec.app r.args r.f a))) fun _ _ _ => False)
    (hCX : ∀ (H : Hp) (s : Shared) (e : Value) (s' : Shared), CX [] H s (fun _ _ _ => False) e s' → False) :
    PySem.W.WalkOS q loose XP YP r d [] (fun f vs => PySem.call f vs) := by
  intro w s0 s1 mg mb G Y fa o pm cd doc dV kV ho hd hcd hD hmg hg args vals as hpre hlay hrd hwl hlo
  obtain ⟨a, e1, e2⟩ := PySem.W.os_pre_some hpre
  obtain ⟨e3, hwi⟩ := Codec.encAll_of_decAll r.args args a e1
  subst e3
  obtain ⟨K, fd, KX, hb, hF⟩ := F w mg fa _ Y G.T.g hmg
  refine PySem.W.enter_call (codeAny_mono (spec_call (R := []) (cl := classAt s0.heap) (d0 := r.ret.enc (Codec.app r.args r.f a)) KX G.T.g G.T.b G.T.builtins G.T.nolimit hg hwl (pl_encAll _ _) (layable_weight hlay) hr hF hb (by rw [encAll_len]; exact hlen)
    (fun H xs hO hS => hsp K H xs a hO hwi e2 hS) fun H e s' => hCX H s1 e s') fun r' s' hq => ?_)
  obtain ⟨u, as', rfl, h1, h2, h3, h4⟩ := hq
  exact ⟨.inl ⟨u, _, as', rfl, fun _ => rfl, h1, (OpenSpec.post_iff hwell hwi _ _).mpr rfl, fun z => Bool.noConfusion (show false = true from z)⟩, h2, h3, h4⟩
end Wk
open PySem PySem.W PySem.Calls PyProof.Rows
theorem PySem.Challenge.cw_landeditions_s01_answers_holds : PySem.Challenge.rw_landeditions_s01_answers.Holds := by
  w_on
  refine holds_os (r := PySem.Challenge.rw_landeditions_s01_answers) (q := Wk.qv) (loose := Wk.nms) (XP := XL Wk.qv []) (YP := Wk.hk.says) (kwd := []) Wk.leftT Wk.hk.of Wk.hk.keeps
    (fun s z => xl_of s (Bool.and_eq_true_iff.mp z).1) XL.keeps (by rfl) (by rfl) (by rfl) (fun s z => recFacts_of (Bool.and_eq_true_iff.mp z).2) os_shapes Wk.ok3 (Bool.and_eq_true_iff.mpr ⟨Wk.ok1, Wk.ok2⟩) ⟨rfl, rfl, rfl, rfl, rfl, by decide +kernel⟩ ?hw ?hc
  case hw => exact ⟨[.list []], by decide +kernel, by decide +kernel⟩
  case hc =>
    refine Wk.walk_specE (r := PySem.Challenge.rw_landeditions_s01_answers) (k := 8) (CX := C8.CX0) (ps := ["calls"]) (sp := fun K => Wk.sp_answers K (Wk.adOf K)) Wk.ok3 rfl ⟨rfl, by decide, by decide⟩ ?F ?S (fun _ _ _ _ z => z)
    case F =>
      intro w mg fa h Y G hmg
      obtain ⟨K, KX, c⟩ := Y
      obtain ⟨fd, hb, hF⟩ := Wk.all_ok KX G c (P := PySem.Challenge.rw_landeditions_s01_answers.prog) (w := w)
      have e : mg ("answers" : PySem.Str) = some (.ref (He.ga K "answers")) := Wk.glo_answers KX G c
      have hmg' : mg ("answers" : PySem.Str) = some (.ref fa) := hmg
      rw [e] at hmg'
      cases hmg'
      exact ⟨K, fd, KX, hb, fun base _ _ => hF base⟩
    case S =>
      intro K H xs a hO hwi hask hx
      cases hx with
      | cons h1 h2 =>
        cases h2
        cases h1 with
        | lst hs ha =>
          have e := L2.ints_dw a.1 _ ha
          subst e
          have q : ((Codec.inLen 0 31700 a.1 && a.1.all (Codec.inInt 0 4294967295)) && true) = true := hwi
          rw [Bool.and_eq_true, Bool.and_eq_true] at q
          have hl : a.1.length ≤ 31700 := (Codec.inNat_iff.mp q.1.1).2
          refine ⟨_, ⟨_, a.1, rfl, hs, by omega, hask, rfl⟩, fun v H' _ hv => ?_⟩
          obtain ⟨p, rfl, hp⟩ := hv
          rw [Wk.ints_iff] at hp
          exact .lst (L2.SqL.of hp) (L2.dw_ints _)
end
