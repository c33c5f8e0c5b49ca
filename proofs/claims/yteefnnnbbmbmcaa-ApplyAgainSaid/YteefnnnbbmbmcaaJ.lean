/- The closed facts of a row, one by one: a program's head with many names in it is not read through. -/
import Derived.Test.YteefnnnbbmbmcaaRows
import Derived.ProofKit
import Derived.JoinedOf
namespace Go.Proofs.Yteefnnnbbmbmcaa
set_option maxRecDepth 100000
theorem joined_mk {P : Program} {f : FuncId} {fn : Func} {s : ChangeSpec} {c : OpenClaim}
    (h1 : (c.wf (OpenSpec.ofChange s)) = true)
    (h2 : (laidOutB P) = true)
    (h3 : (mapsRowed P) = true)
    (h4 : (fn.params.all (P.readableRec ·)) = true)
    (h5 : (namedTie P c.named s.vars) = true)
    (h6 : ((c.stops == [])) = true)
    (h7 : ((P.stops == [])) = true)
    (h8 : ((c.knobs == [])) = true)
    (h9 : ((P.stopKnobs == [])) = true)
    (h10 : ((c.inPlace == P.inPlace f)) = true)
    (h11 : ((c.unfollowed == P.unfollowed f)) = true)
    (h12 : ((c.recurses == P.recurses f)) = true)
    (h13 : ((c.named == P.varsNamed f)) = true)
    (h14 : ((c.maps == (fn.params.toList ++ s.plain.varTypes P).any (P.mapsRec ·))) = true)
    (h15 : ((c.ifaces == (fn.params.toList ++ s.plain.varTypes P).any (P.ifacesRec ·))) = true)
    (h16 : ((c.mapsOut == P.mapsAmong fn.resultTypes.toList)) = true)
    (h17 : ((c.loops == (fn.params.toList ++ s.plain.varTypes P).any (P.loopsFrom ·))) = true)
    (h18 : ((c.wideKeys == (fn.params.toList ++ s.plain.varTypes P ++ fn.resultTypes.toList).any (P.wideKeysFrom ·))) = true)
    (h19 : (s.vars.all (P.varReadable ·)) = true)
    (h20 : (fn.resultTypes.all (fun t => P.readableRec t && decide (t < P.types.size))) = true)
    (h21 : ((c.ifacesOut == fn.resultTypes.toList.any (P.ifacesRec ·))) = true)
    (h22 : ((c.loopsOut == fn.resultTypes.toList.any (P.loopsFrom ·))) = true)
    (h23 : ((c.plainKeys == P.plainKeys)) = true)
    (h24 : (c.shortTexts.isNone) = true)
    (h25 : (P.stopsHeard) = true)
    (h26 : (P.mayEnter) = true)
    (h27 : ((c.lifted == P.liftsFinal)) = true)
    (h28 : ((P.make == some c.make)) = true)
    (h29 : ((c.kinds == (if c.domain.isEmpty then [] else fn.params.toList.map fun t => match P.underlying t with | some (.int k) => some k | _ => none))) = true)
    (h30 : ((c.pinned == c.pinnedBy)) = true)
    (h31 : ((c.veiled == (fn.params.toList ++ s.plain.varTypes P ++ fn.resultTypes.toList).any (P.veiledRec ·))) = true)
    (h32 : (c.veiledFits P fn.params.toList (fn.params.toList ++ s.plain.varTypes P ++ fn.resultTypes.toList)) = true)
    : joinedFacts P f fn s c = true := by
  unfold joinedFacts
  simp only [Bool.and_eq_true]
  exact ⟨⟨⟨⟨⟨⟨⟨⟨⟨⟨⟨⟨⟨⟨⟨⟨⟨⟨⟨⟨⟨⟨⟨⟨⟨⟨⟨⟨⟨⟨⟨h1, h2⟩, h3⟩, h4⟩, h5⟩, h6⟩, h7⟩, h8⟩, h9⟩, h10⟩, h11⟩, h12⟩, h13⟩, h14⟩, h15⟩, h16⟩, h17⟩, h18⟩, h19⟩, h20⟩, h21⟩, h22⟩, h23⟩, h24⟩, h25⟩, h26⟩, h27⟩, h28⟩, h29⟩, h30⟩, h31⟩, h32⟩

theorem wordsSigns_word : ∀ (w r : List Char), (w.all fun c => c != Char.ofNat 32) = true → wordsSigns (w ++ Char.ofNat 32 :: r) = w :: wordsSigns r
  | [], _, _ => rfl
  | c :: w, r, h => by
    simp only [List.all_cons, Bool.and_eq_true] at h
    have ih := wordsSigns_word w r h.2
    have hc : c ≠ Char.ofNat 32 := by simpa using h.1
    rw [List.cons_append, wordsSigns, ih]
    intro e
    exact hc (e.trans (by decide))
/-- The head: the word of a harness, its sum, 'cut', and names that nobody reads. -/
theorem words_of {P : Program} {S D : List Nat} (h : P.initOrder = String.ofList (([104, 97, 114, 110, 101, 115, 115].map Char.ofNat) ++ Char.ofNat 32 :: (S.map Char.ofNat ++ Char.ofNat 32 :: ([99, 117, 116].map Char.ofNat ++ Char.ofNat 32 :: D.map Char.ofNat))))
    (hs : isSumSigns (S.map Char.ofNat) = true) (hn : ((S.map Char.ofNat).all fun c => c != Char.ofNat 32) = true) : ∃ R, behindMainWord (wordsSigns P.initOrder.toList) = [99, 117, 116].map Char.ofNat :: R := by
  rw [h, String.toList_ofList, wordsSigns_word _ _ (by decide), wordsSigns_word _ _ hn, wordsSigns_word _ _ (by decide)]
  refine ⟨wordsSigns (D.map Char.ofNat), ?_⟩
  generalize wordsSigns (D.map Char.ofNat) = R
  show (if _ then _ else _) = _
  rw [hs, if_pos (by decide +kernel)]
theorem strip_cut (R : List (List Char)) : stripLifts liftWords ([99, 117, 116].map Char.ofNat :: R) = ([], [99, 117, 116].map Char.ofNat :: R) := by kernel_rfl
theorem mayEnter_of {P : Program} (hw : ∃ R, behindMainWord (wordsSigns P.initOrder.toList) = [99, 117, 116].map Char.ofNat :: R) (h1 : P.laysLater = false) (h2 : P.bearsReflect = false) (h3 : P.doorFits [] = true) : P.mayEnter = true := by
  obtain ⟨R, hR⟩ := hw
  unfold Program.mayEnter
  rw [hR]
  simp only [strip_cut, h1, h2, h3]
  simp only [List.head?_cons]
  rw [show (some (List.map Char.ofNat [99, 117, 116]) == some "cut".toList) = true from by decide +kernel]
  simp
theorem headLifts_of {P : Program} (hw : ∃ R, behindMainWord (wordsSigns P.initOrder.toList) = [99, 117, 116].map Char.ofNat :: R) : P.headLifts = [] := by
  obtain ⟨R, hR⟩ := hw
  unfold Program.headLifts
  rw [hR]
  simp only [strip_cut]
  simp
theorem liftsFinal_of {P : Program} (hw : ∃ R, behindMainWord (wordsSigns P.initOrder.toList) = [99, 117, 116].map Char.ofNat :: R) : P.liftsFinal = false := by
  have hl := headLifts_of hw
  obtain ⟨R, hR⟩ := hw
  unfold Program.liftsFinal
  rw [hl]
  simp only [hR, List.head?_cons]
  rw [show (some (List.map Char.ofNat [99, 117, 116]) == some "carried".toList) = false from by decide +kernel]
  simp
theorem make_of {P : Program} (hw : ∃ R, behindMainWord (wordsSigns P.initOrder.toList) = [99, 117, 116].map Char.ofNat :: R) : P.make = some .cut := by
  obtain ⟨R, hR⟩ := hw
  unfold Program.make
  rw [hR]
  dsimp only
  rw [if_neg (by decide +kernel), if_pos (by rw [show (List.map Char.ofNat [99, 117, 116] == "cut".toList) = true from by decide +kernel]; rfl)]
theorem seat_head : Try.pinned.checked.prog.initOrder = String.ofList (([104, 97, 114, 110, 101, 115, 115].map Char.ofNat) ++ Char.ofNat 32 :: (([50, 53, 50, 53, 98, 102, 102, 48, 99, 51, 49, 55, 56, 54, 101, 48, 48, 52, 50, 99, 57, 102, 53, 49, 51, 50, 102, 98, 53, 51, 97, 97, 98, 55, 100, 99, 52, 52, 98, 100, 97, 52, 51, 53, 52, 100, 98, 53, 53, 56, 52, 56, 53, 49, 55, 101, 52, 56, 99, 54, 52, 50, 52, 101] : List Nat).map Char.ofNat ++ Char.ofNat 32 :: ([99, 117, 116].map Char.ofNat ++ Char.ofNat 32 :: ([97, 116, 32, 99, 97, 110, 111, 112, 121, 47, 99, 97, 110, 111, 112, 121, 107, 101, 101, 112, 46, 75, 101, 112, 116, 87, 105, 110, 100, 111, 119, 32, 99, 97, 110, 111, 112, 121, 47, 99, 97, 110, 111, 112, 121, 107, 101, 101, 112, 46, 75, 101, 121, 76, 111, 110, 103, 32, 99, 97, 110, 111, 112, 121, 47, 99, 97, 110, 111, 112, 121, 107, 101, 101, 112, 46, 65, 99, 116, 66, 97, 114, 101, 32, 99, 97, 110, 111, 112, 121, 47, 99, 97, 110, 111, 112, 121, 107, 101, 101, 112, 46, 66, 105, 116, 115, 84, 101, 108, 108, 32, 99, 97, 110, 111, 112, 121, 47, 99, 97, 110, 111, 112, 121, 107, 101, 101, 112, 46, 80, 97, 114, 116, 84, 104, 114, 101, 101, 32, 99, 97, 110, 111, 112, 121, 47, 99, 97, 110, 111, 112, 121, 107, 101, 101, 112, 46, 80, 97, 114, 116, 70, 105, 114, 115, 116, 32, 99, 97, 110, 111, 112, 121, 47, 99, 97, 110, 111, 112, 121, 107, 101, 101, 112, 46, 80, 97, 114, 116, 79, 114, 100, 101, 114, 32, 99, 97, 110, 111, 112, 121, 47, 99, 97, 110, 111, 112, 121, 107, 101, 101, 112, 46, 82, 97, 110, 103, 101, 65, 108, 108, 32, 99, 97, 110, 111, 112, 121, 47, 99, 97, 110, 111, 112, 121, 107, 101, 101, 112, 46, 82, 97, 110, 103, 101, 80, 97, 114, 116, 115, 32, 99, 97, 110, 111, 112, 121, 47, 99, 97, 110, 111, 112, 121, 107, 101, 101, 112, 46, 80, 117, 116, 84, 117, 114, 110, 115, 32, 99, 97, 110, 111, 112, 121, 47, 99, 97, 110, 111, 112, 121, 107, 101, 101, 112, 46, 84, 114, 101, 101, 70, 117, 108, 108, 32, 99, 97, 110, 111, 112, 121, 47, 99, 97, 110, 111, 112, 121, 107, 101, 101, 112, 46, 80, 117, 116, 71, 101, 116, 32, 99, 97, 110, 111, 112, 121, 47, 99, 97, 110, 111, 112, 121, 107, 101, 101, 112, 46, 68, 101, 108, 101, 116, 101, 71, 111, 110, 101, 32, 99, 97, 110, 111, 112, 121, 47, 99, 97, 110, 111, 112, 121, 107, 101, 101, 112, 46, 71, 101, 116, 77, 111, 100, 101, 108, 32, 99, 97, 110, 111, 112, 121, 47, 99, 97, 110, 111, 112, 121, 107, 101, 101, 112, 46, 65, 112, 112, 108, 121, 80, 97, 114, 116, 115, 32, 99, 97, 110, 111, 112, 121, 47, 99, 97, 110, 111, 112, 121, 107, 101, 101, 112, 46, 65, 112, 112, 108, 121, 84, 117, 114, 110, 115, 32, 99, 97, 110, 111, 112, 121, 47, 99, 97, 110, 111, 112, 121, 107, 101, 101, 112, 46, 70, 111, 114, 101, 115, 116, 70, 117, 108, 108, 32, 99, 97, 110, 111, 112, 121, 47, 99, 97, 110, 111, 112, 121, 107, 101, 101, 112, 46, 65, 112, 112, 108, 121, 65, 103, 97, 105, 110, 32, 99, 97, 110, 111, 112, 121, 47, 99, 97, 110, 111, 112, 121, 107, 101, 101, 112, 46, 65, 112, 112, 108, 121, 71, 101, 116, 32, 99, 97, 110, 111, 112, 121, 47, 99, 97, 110, 111, 112, 121, 107, 101, 101, 112, 46, 67, 111, 109, 109, 105, 116, 83, 105, 122, 101, 32, 99, 97, 110, 111, 112, 121, 47, 99, 97, 110, 111, 112, 121, 107, 101, 101, 112, 46, 70, 111, 114, 101, 115, 116, 82, 97, 110, 103, 101, 32, 99, 97, 110, 111, 112, 121, 47, 99, 97, 110, 111, 112, 121, 107, 101, 101, 112, 46, 70, 111, 108, 100, 78, 101, 120, 116, 32, 99, 97, 110, 111, 112, 121, 47, 99, 97, 110, 111, 112, 121, 107, 101, 101, 112, 46, 67, 111, 109, 109, 105, 116, 66, 97, 99, 107, 32, 99, 97, 110, 111, 112, 121, 47, 99, 97, 110, 111, 112, 121, 107, 101, 101, 112, 46, 67, 111, 109, 109, 105, 116, 70, 105, 120, 101, 100, 32, 99, 97, 110, 111, 112, 121, 47, 99, 97, 110, 111, 112, 121, 107, 101, 101, 112, 46, 67, 111, 109, 109, 105, 116, 84, 111, 114, 110, 32, 99, 97, 110, 111, 112, 121, 47, 99, 97, 110, 111, 112, 121, 107, 101, 101, 112, 46, 87, 114, 105, 116, 101, 65, 103, 97, 105, 110, 32, 99, 97, 110, 111, 112, 121, 47, 99, 97, 110, 111, 112, 121, 107, 101, 101, 112, 46, 78, 111, 116, 101, 79, 110, 99, 101, 32, 99, 97, 110, 111, 112, 121, 47, 99, 97, 110, 111, 112, 121, 107, 101, 101, 112, 46, 78, 111, 116, 101, 70, 117, 108, 108, 32, 99, 97, 110, 111, 112, 121, 47, 99, 97, 110, 111, 112, 121, 107, 101, 101, 112, 46, 67, 108, 97, 115, 104, 77, 111, 114, 101, 32, 99, 97, 110, 111, 112, 121, 47, 99, 97, 110, 111, 112, 121, 107, 101, 101, 112, 46, 87, 114, 105, 116, 101, 83, 101, 101, 110, 32, 99, 97, 110, 111, 112, 121, 47, 99, 97, 110, 111, 112, 121, 107, 101, 101, 112, 46, 76, 111, 111, 107, 65, 112, 112, 108, 105, 101, 100, 32, 99, 97, 110, 111, 112, 121, 47, 99, 97, 110, 111, 112, 121, 107, 101, 101, 112, 46, 83, 99, 97, 110, 65, 112, 112, 108, 105, 101, 100, 32, 99, 97, 110, 111, 112, 121, 47, 99, 97, 110, 111, 112, 121, 107, 101, 101, 112, 46, 84, 120, 110, 84, 119, 105, 99, 101, 32, 99, 97, 110, 111, 112, 121, 47, 99, 97, 110, 111, 112, 121, 107, 101, 101, 112, 46, 67, 108, 97, 115, 104, 83, 101, 101, 110, 32, 99, 97, 110, 111, 112, 121, 47, 99, 97, 110, 111, 112, 121, 107, 101, 101, 112, 46, 67, 104, 97, 110, 103, 101, 115, 66, 97, 99, 107, 32, 99, 97, 110, 111, 112, 121, 47, 99, 97, 110, 111, 112, 121, 107, 101, 101, 112, 46, 67, 104, 97, 110, 103, 101, 115, 77, 97, 107, 101] : List Nat).map Char.ofNat))) := by
  show Try.progTables.initOrder = _
  unfold Try.progTables
  dsimp only
  kernel_rfl
theorem seat_words : ∃ R, behindMainWord (wordsSigns Try.pinned.checked.prog.initOrder.toList) = [99, 117, 116].map Char.ofNat :: R := words_of seat_head (by decide +kernel) (by decide +kernel)
theorem seat_laysLater : Try.pinned.checked.prog.laysLater = false := by kernel_rfl
theorem seat_bearsReflect : Try.pinned.checked.prog.bearsReflect = false := by kernel_rfl
theorem seat_doorFits : Try.pinned.checked.prog.doorFits [] = true := by kernel_rfl
theorem seat_mayEnter : Try.pinned.checked.prog.mayEnter = true := mayEnter_of seat_words seat_laysLater seat_bearsReflect seat_doorFits
theorem seat_liftsFinal : Try.pinned.checked.prog.liftsFinal = false := liftsFinal_of seat_words
theorem seat_make : Try.pinned.checked.prog.make = some .cut := make_of seat_words
theorem seat_laidOut : laidOutB Try.pinned.checked.prog = true := by kernel_rfl
theorem seat_mapsRowed : mapsRowed Try.pinned.checked.prog = true := by kernel_rfl
theorem seat_stops : (Try.pinned.checked.prog.stops == []) = true := by kernel_rfl
theorem seat_stopKnobs : (Try.pinned.checked.prog.stopKnobs == []) = true := by kernel_rfl
theorem seat_stopsHeard : Try.pinned.checked.prog.stopsHeard = true := by kernel_rfl
theorem seat_plainKeys : Try.pinned.checked.prog.plainKeys = true := by kernel_rfl
end Go.Proofs.Yteefnnnbbmbmcaa
