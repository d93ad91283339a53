/-
  DERIVED. GIVEN WITH THE SEED: THE CARDS: each row of YtlcaphkcfmlljaaGreatDoorRows.lean that lists a variable, with what it lists TIED to the program's text (the seventh form; the later family's looks); each row that meets fmt, with fmt's text TOLD by the authors' own Lean function (tested against real Go, not proved from fmt's source: count such statements apart). THE CARD IS WHAT COUNTS. Prove the row's statement (the work); the ties are given (YtlcaphkcfmlljaaGreatDoorTie.lean); close each card by the builder's one call (the guide's Derived/Test/ToyasCard.lean, 'card_holds'). Laid BY PROGRAM, IN A SANDBOX (cutbox-door.mjs). By AI agents, Wed Nov 11 2026. No macro, syntax, notation, axiom, sorry.
-/
import Derived.Test.YtlcaphkcfmlljaaGreatDoorRows
import GoSem.ClaimSeven
namespace Go.Proofs.YtlcaphkcfmlljaaGreatDoor
namespace Rows

/-- THE TIED CARD OF 'fenestralaw11.EmitRows'. -/
def emitRowsCard : Claim7 := { stood := { row := emitRowsRow, standIns := [], harness := (true, "5f7aba1ce2d83adc982d5a9ae7c36d238e8aaf7a5a157678ff63632a2f27b62b"), looks := true }, kinds := [], alts := [], laidByText := true, laidKinds := [.data, .data, .data, .data, .data, .widerDeep, .widerDeep], laidTests := true, laidLooks := .later }
def EmitRowsCardSaid : Prop := Claim7.holds Tryz.pinned (.plain (OpenSpec.ofChange emitRowsSpec)) emitRowsCard

/-- THE TIED CARD OF 'fenestralaw11.EmitAlike'. -/
def emitAlikeCard : Claim7 := { stood := { row := emitAlikeRow, standIns := [], harness := (true, "5f7aba1ce2d83adc982d5a9ae7c36d238e8aaf7a5a157678ff63632a2f27b62b"), looks := true }, kinds := [], alts := [], laidByText := true, laidKinds := [.data, .data, .data, .data, .data, .widerDeep, .widerDeep], laidTests := true, laidLooks := .later }
def EmitAlikeCardSaid : Prop := Claim7.holds Tryz.pinned (.plain (OpenSpec.ofChange emitAlikeSpec)) emitAlikeCard

/-- THE TIED CARD OF 'fenestralaw11.EmitOnes'. -/
def emitOnesCard : Claim7 := { stood := { row := emitOnesRow, standIns := [], harness := (true, "5f7aba1ce2d83adc982d5a9ae7c36d238e8aaf7a5a157678ff63632a2f27b62b"), looks := true }, kinds := [], alts := [], laidByText := true, laidKinds := [.data, .data, .data, .data, .data, .widerDeep, .widerDeep], laidTests := true, laidLooks := .later }
def EmitOnesCardSaid : Prop := Claim7.holds Tryz.pinned (.plain (OpenSpec.ofChange emitOnesSpec)) emitOnesCard

/-- THE TIED CARD OF 'fenestralaw11.EmitParts'. -/
def emitPartsCard : Claim7 := { stood := { row := emitPartsRow, standIns := [], harness := (true, "5f7aba1ce2d83adc982d5a9ae7c36d238e8aaf7a5a157678ff63632a2f27b62b"), looks := true }, kinds := [], alts := [], laidByText := true, laidKinds := [.data, .data, .data, .data, .data, .widerDeep, .widerDeep], laidTests := true, laidLooks := .later }
def EmitPartsCardSaid : Prop := Claim7.holds Tryz.pinned (.plain (OpenSpec.ofChange emitPartsSpec)) emitPartsCard

/-- THE TIED CARD OF 'fenestralaw11.EmitKnown'. -/
def emitKnownCard : Claim7 := { stood := { row := emitKnownRow, standIns := [], harness := (true, "5f7aba1ce2d83adc982d5a9ae7c36d238e8aaf7a5a157678ff63632a2f27b62b"), looks := true }, kinds := [], alts := [], laidByText := true, laidKinds := [.data, .data, .data, .data, .data, .widerDeep, .widerDeep], laidTests := true, laidLooks := .later }
def EmitKnownCardSaid : Prop := Claim7.holds Tryz.pinned (.plain (OpenSpec.ofChange emitKnownSpec)) emitKnownCard

/-- THE TIED CARD OF 'fenestralaw24.DamageSpans'. -/
def damageSpansCard : Claim7 := { stood := { row := damageSpansRow, standIns := [], harness := (true, "5f7aba1ce2d83adc982d5a9ae7c36d238e8aaf7a5a157678ff63632a2f27b62b"), looks := true }, kinds := [], alts := [], laidByText := true, laidKinds := [.data, .data, .data, .data, .widerDeep, .widerDeep], laidTests := true, laidLooks := .later }
def DamageSpansCardSaid : Prop := Claim7.holds Tryz.pinned (.plain (OpenSpec.ofChange damageSpansSpec)) damageSpansCard

/-- THE TIED CARD OF 'fenestralaw24.DamageJoins'. -/
def damageJoinsCard : Claim7 := { stood := { row := damageJoinsRow, standIns := [], harness := (true, "5f7aba1ce2d83adc982d5a9ae7c36d238e8aaf7a5a157678ff63632a2f27b62b"), looks := true }, kinds := [], alts := [], laidByText := true, laidKinds := [.data, .data, .data, .data, .widerDeep, .widerDeep], laidTests := true, laidLooks := .later }
def DamageJoinsCardSaid : Prop := Claim7.holds Tryz.pinned (.plain (OpenSpec.ofChange damageJoinsSpec)) damageJoinsCard

/-- THE TIED CARD OF 'fenestralaw24.DamageOver'. -/
def damageOverCard : Claim7 := { stood := { row := damageOverRow, standIns := [], harness := (true, "5f7aba1ce2d83adc982d5a9ae7c36d238e8aaf7a5a157678ff63632a2f27b62b"), looks := true }, kinds := [], alts := [], laidByText := true, laidKinds := [.data, .data, .data, .data, .widerDeep, .widerDeep], laidTests := true, laidLooks := .later }
def DamageOverCardSaid : Prop := Claim7.holds Tryz.pinned (.plain (OpenSpec.ofChange damageOverSpec)) damageOverCard

/-- THE TIED CARD OF 'fenestralaw24.DamageRises'. -/
def damageRisesCard : Claim7 := { stood := { row := damageRisesRow, standIns := [], harness := (true, "5f7aba1ce2d83adc982d5a9ae7c36d238e8aaf7a5a157678ff63632a2f27b62b"), looks := true }, kinds := [], alts := [], laidByText := true, laidKinds := [.data, .data, .data, .data, .widerDeep, .widerDeep], laidTests := true, laidLooks := .later }
def DamageRisesCardSaid : Prop := Claim7.holds Tryz.pinned (.plain (OpenSpec.ofChange damageRisesSpec)) damageRisesCard

/-- THE TIED CARD OF 'fenestralaw24.DamageTriangle'. -/
def damageTriangleCard : Claim7 := { stood := { row := damageTriangleRow, standIns := [], harness := (true, "5f7aba1ce2d83adc982d5a9ae7c36d238e8aaf7a5a157678ff63632a2f27b62b"), looks := true }, kinds := [], alts := [], laidByText := true, laidKinds := [.data, .data, .data, .data, .widerDeep, .widerDeep], laidTests := true, laidLooks := .later }
def DamageTriangleCardSaid : Prop := Claim7.holds Tryz.pinned (.plain (OpenSpec.ofChange damageTriangleSpec)) damageTriangleCard

/-- THE TIED CARD OF 'fenestralaw24.DamageLeads'. -/
def damageLeadsCard : Claim7 := { stood := { row := damageLeadsRow, standIns := [], harness := (true, "5f7aba1ce2d83adc982d5a9ae7c36d238e8aaf7a5a157678ff63632a2f27b62b"), looks := true }, kinds := [], alts := [], laidByText := true, laidKinds := [.data, .data, .data, .data, .widerDeep, .widerDeep], laidTests := true, laidLooks := .later }
def DamageLeadsCardSaid : Prop := Claim7.holds Tryz.pinned (.plain (OpenSpec.ofChange damageLeadsSpec)) damageLeadsCard

/-- THE TIED CARD OF 'fenestralaw24.DamageSame'. -/
def damageSameCard : Claim7 := { stood := { row := damageSameRow, standIns := [], harness := (true, "5f7aba1ce2d83adc982d5a9ae7c36d238e8aaf7a5a157678ff63632a2f27b62b"), looks := true }, kinds := [], alts := [], laidByText := true, laidKinds := [.data, .data, .data, .data, .widerDeep, .widerDeep], laidTests := true, laidLooks := .later }
def DamageSameCardSaid : Prop := Claim7.holds Tryz.pinned (.plain (OpenSpec.ofChange damageSameSpec)) damageSameCard

/-- THE SECOND FORM's CARD OF 'fenestralaw11.EmitRows'. -/
def emitRowsUptoCard : Claim7 := { stood := { row := emitRowsUptoRow, standIns := [], harness := (true, "5f7aba1ce2d83adc982d5a9ae7c36d238e8aaf7a5a157678ff63632a2f27b62b"), looks := true }, kinds := [], alts := [], laidByText := true, laidKinds := [.data, .data, .data, .data, .data, .widerDeep, .widerDeep], laidTests := true, laidLooks := .later }
def EmitRowsUptoCardSaid : Prop := Claim7.holds Tryz.pinned (.plain (OpenSpec.upto emitRowsSpec)) emitRowsUptoCard

/-- THE SECOND FORM's CARD OF 'fenestralaw11.EmitAlike'. -/
def emitAlikeUptoCard : Claim7 := { stood := { row := emitAlikeUptoRow, standIns := [], harness := (true, "5f7aba1ce2d83adc982d5a9ae7c36d238e8aaf7a5a157678ff63632a2f27b62b"), looks := true }, kinds := [], alts := [], laidByText := true, laidKinds := [.data, .data, .data, .data, .data, .widerDeep, .widerDeep], laidTests := true, laidLooks := .later }
def EmitAlikeUptoCardSaid : Prop := Claim7.holds Tryz.pinned (.plain (OpenSpec.upto emitAlikeSpec)) emitAlikeUptoCard

/-- THE SECOND FORM's CARD OF 'fenestralaw11.EmitOnes'. -/
def emitOnesUptoCard : Claim7 := { stood := { row := emitOnesUptoRow, standIns := [], harness := (true, "5f7aba1ce2d83adc982d5a9ae7c36d238e8aaf7a5a157678ff63632a2f27b62b"), looks := true }, kinds := [], alts := [], laidByText := true, laidKinds := [.data, .data, .data, .data, .data, .widerDeep, .widerDeep], laidTests := true, laidLooks := .later }
def EmitOnesUptoCardSaid : Prop := Claim7.holds Tryz.pinned (.plain (OpenSpec.upto emitOnesSpec)) emitOnesUptoCard

/-- THE SECOND FORM's CARD OF 'fenestralaw11.EmitParts'. -/
def emitPartsUptoCard : Claim7 := { stood := { row := emitPartsUptoRow, standIns := [], harness := (true, "5f7aba1ce2d83adc982d5a9ae7c36d238e8aaf7a5a157678ff63632a2f27b62b"), looks := true }, kinds := [], alts := [], laidByText := true, laidKinds := [.data, .data, .data, .data, .data, .widerDeep, .widerDeep], laidTests := true, laidLooks := .later }
def EmitPartsUptoCardSaid : Prop := Claim7.holds Tryz.pinned (.plain (OpenSpec.upto emitPartsSpec)) emitPartsUptoCard

/-- THE SECOND FORM's CARD OF 'fenestralaw11.EmitKnown'. -/
def emitKnownUptoCard : Claim7 := { stood := { row := emitKnownUptoRow, standIns := [], harness := (true, "5f7aba1ce2d83adc982d5a9ae7c36d238e8aaf7a5a157678ff63632a2f27b62b"), looks := true }, kinds := [], alts := [], laidByText := true, laidKinds := [.data, .data, .data, .data, .data, .widerDeep, .widerDeep], laidTests := true, laidLooks := .later }
def EmitKnownUptoCardSaid : Prop := Claim7.holds Tryz.pinned (.plain (OpenSpec.upto emitKnownSpec)) emitKnownUptoCard

/-- THE SECOND FORM's CARD OF 'fenestralaw24.DamageSpans'. -/
def damageSpansUptoCard : Claim7 := { stood := { row := damageSpansUptoRow, standIns := [], harness := (true, "5f7aba1ce2d83adc982d5a9ae7c36d238e8aaf7a5a157678ff63632a2f27b62b"), looks := true }, kinds := [], alts := [], laidByText := true, laidKinds := [.data, .data, .data, .data, .widerDeep, .widerDeep], laidTests := true, laidLooks := .later }
def DamageSpansUptoCardSaid : Prop := Claim7.holds Tryz.pinned (.plain (OpenSpec.upto damageSpansSpec)) damageSpansUptoCard

/-- THE SECOND FORM's CARD OF 'fenestralaw24.DamageJoins'. -/
def damageJoinsUptoCard : Claim7 := { stood := { row := damageJoinsUptoRow, standIns := [], harness := (true, "5f7aba1ce2d83adc982d5a9ae7c36d238e8aaf7a5a157678ff63632a2f27b62b"), looks := true }, kinds := [], alts := [], laidByText := true, laidKinds := [.data, .data, .data, .data, .widerDeep, .widerDeep], laidTests := true, laidLooks := .later }
def DamageJoinsUptoCardSaid : Prop := Claim7.holds Tryz.pinned (.plain (OpenSpec.upto damageJoinsSpec)) damageJoinsUptoCard

/-- THE SECOND FORM's CARD OF 'fenestralaw24.DamageOver'. -/
def damageOverUptoCard : Claim7 := { stood := { row := damageOverUptoRow, standIns := [], harness := (true, "5f7aba1ce2d83adc982d5a9ae7c36d238e8aaf7a5a157678ff63632a2f27b62b"), looks := true }, kinds := [], alts := [], laidByText := true, laidKinds := [.data, .data, .data, .data, .widerDeep, .widerDeep], laidTests := true, laidLooks := .later }
def DamageOverUptoCardSaid : Prop := Claim7.holds Tryz.pinned (.plain (OpenSpec.upto damageOverSpec)) damageOverUptoCard

/-- THE SECOND FORM's CARD OF 'fenestralaw24.DamageRises'. -/
def damageRisesUptoCard : Claim7 := { stood := { row := damageRisesUptoRow, standIns := [], harness := (true, "5f7aba1ce2d83adc982d5a9ae7c36d238e8aaf7a5a157678ff63632a2f27b62b"), looks := true }, kinds := [], alts := [], laidByText := true, laidKinds := [.data, .data, .data, .data, .widerDeep, .widerDeep], laidTests := true, laidLooks := .later }
def DamageRisesUptoCardSaid : Prop := Claim7.holds Tryz.pinned (.plain (OpenSpec.upto damageRisesSpec)) damageRisesUptoCard

/-- THE SECOND FORM's CARD OF 'fenestralaw24.DamageTriangle'. -/
def damageTriangleUptoCard : Claim7 := { stood := { row := damageTriangleUptoRow, standIns := [], harness := (true, "5f7aba1ce2d83adc982d5a9ae7c36d238e8aaf7a5a157678ff63632a2f27b62b"), looks := true }, kinds := [], alts := [], laidByText := true, laidKinds := [.data, .data, .data, .data, .widerDeep, .widerDeep], laidTests := true, laidLooks := .later }
def DamageTriangleUptoCardSaid : Prop := Claim7.holds Tryz.pinned (.plain (OpenSpec.upto damageTriangleSpec)) damageTriangleUptoCard

/-- THE SECOND FORM's CARD OF 'fenestralaw24.DamageLeads'. -/
def damageLeadsUptoCard : Claim7 := { stood := { row := damageLeadsUptoRow, standIns := [], harness := (true, "5f7aba1ce2d83adc982d5a9ae7c36d238e8aaf7a5a157678ff63632a2f27b62b"), looks := true }, kinds := [], alts := [], laidByText := true, laidKinds := [.data, .data, .data, .data, .widerDeep, .widerDeep], laidTests := true, laidLooks := .later }
def DamageLeadsUptoCardSaid : Prop := Claim7.holds Tryz.pinned (.plain (OpenSpec.upto damageLeadsSpec)) damageLeadsUptoCard

/-- THE SECOND FORM's CARD OF 'fenestralaw24.DamageSame'. -/
def damageSameUptoCard : Claim7 := { stood := { row := damageSameUptoRow, standIns := [], harness := (true, "5f7aba1ce2d83adc982d5a9ae7c36d238e8aaf7a5a157678ff63632a2f27b62b"), looks := true }, kinds := [], alts := [], laidByText := true, laidKinds := [.data, .data, .data, .data, .widerDeep, .widerDeep], laidTests := true, laidLooks := .later }
def DamageSameUptoCardSaid : Prop := Claim7.holds Tryz.pinned (.plain (OpenSpec.upto damageSameSpec)) damageSameUptoCard
end Rows
end Go.Proofs.YtlcaphkcfmlljaaGreatDoor
