import PyProof.Rows.All
import Wide.All
import OpenK.AllK
import Wide.FinOn
import HandS.ForMost
import HandS.TupAny
import HandS.Style
import HandS.Codes
import PySem.Challenge.RW_opencells_k05_whole_a_row_in_two
set_option Elab.async false
set_option linter.all false
set_option maxRecDepth 100000
set_option maxHeartbeats 4000000
namespace K05
open PySem PySem.Spec PyProof.Rows L2

/-! ## the text by places -/
def top (i : Nat) : Stmt := PySem.Challenge.pw_opencells_k05_whole_a_row_in_two.main.body.getD i (.Pass ⟨0, 0, 0, 0⟩)
abbrev sRun : Stmt := top 1
abbrev sLets : Stmt := top 2
abbrev sReached : Stmt := top 3
abbrev sTake : Stmt := top 5
abbrev sCell : Stmt := top 6
abbrev sNear : Stmt := top 7
abbrev sMach : Stmt := top 8
abbrev sRow : Stmt := top 9
abbrev sRight : Stmt := top 10
abbrev sLaw : Stmt := top 11

/-! ## the plain law -/
abbrev CellF := Nat → Nat → Option Nat × Option Int
/-- what is said on a row, and the room come to -/
def going (cell : CellF) : List Nat → Option Nat → List (Option Int) × Option Nat
  | [], h => ([], h)
  | _ :: _, none => ([], none)
  | a :: row, some r => ((cell r a).2 :: (going cell row (cell r a).1).1, (going cell row (cell r a).1).2)
theorem going_none (cell : CellF) : ∀ row : List Nat, going cell row none = ([], none)
  | [] => rfl
  | _ :: _ => rfl
/-- a row in two -/
theorem going_app (cell : CellF) : ∀ (xs ys : List Nat) (h : Option Nat), going cell (xs ++ ys) h = ((going cell xs h).1 ++ (going cell ys (going cell xs h).2).1, (going cell ys (going cell xs h).2).2)
  | [], ys, h => by simp [going]
  | _ :: _, ys, none => by simp [going, going_none]
  | a :: xs, ys, some r => by
    have ih := going_app cell xs ys (cell r a).1
    simp [going, ih]
theorem going_len (cell : CellF) : ∀ (xs : List Nat) (h : Option Nat), (going cell xs h).1.length ≤ xs.length
  | [], h => by simp [going]
  | _ :: _, none => by simp [going]
  | a :: xs, some r => by
    have ih := going_len cell xs (cell r a).1
    simp only [going, List.length_cons]
    omega
theorem going_full (cell : CellF) : ∀ (xs : List Nat) (h : Option Nat) (e : Nat), (going cell xs h).2 = some e → (going cell xs h).1.length = xs.length
  | [], h, e, q => by simp [going]
  | _ :: _, none, e, q => by simp [going] at q
  | a :: xs, some r, e, q => by
    have ih := going_full cell xs (cell r a).1 e q
    simp only [going, List.length_cons]
    omega
def AsksOk (asks : Nat) (row : List Nat) : Prop := ∀ a, a ∈ row → a < asks
theorem AsksOk.take {asks : Nat} {row : List Nat} (h : AsksOk asks row) (n : Nat) : AsksOk asks (row.take n) := fun a ha => h a (List.mem_of_mem_take ha)
theorem AsksOk.drop {asks : Nat} {row : List Nat} (h : AsksOk asks row) (n : Nat) : AsksOk asks (row.drop n) := fun a ha => h a (List.mem_of_mem_drop ha)
theorem AsksOk.app {asks : Nat} {row more : List Nat} (h : AsksOk asks row) (h2 : AsksOk asks more) : AsksOk asks (row ++ more) := fun a ha => (List.mem_append.mp ha).elim (h a) (h2 a)
/-- rooms that are closed under the cells' ways hold whatever room a row comes to -/
theorem going_in (cell : CellF) {asks : Nat} {R : List Nat} (cl : ∀ r, r ∈ R → ∀ a, a < asks → ∀ g, (cell r a).1 = some g → g ∈ R) :
    ∀ (xs : List Nat) (h : Option Nat) (e : Nat), AsksOk asks xs → (∀ r, h = some r → r ∈ R) → (going cell xs h).2 = some e → e ∈ R
  | [], h, e, _, hr, q => hr e (by simpa [going] using q)
  | _ :: _, none, e, _, _, q => by simp [going] at q
  | a :: xs, some r, e, ha, hr, q => going_in cell cl xs (cell r a).1 e (fun b hb => ha b (List.mem_cons_of_mem _ hb))
      (fun g hg => cl r (hr r rfl) a (ha a List.mem_cons_self) g hg) q
/-- the rooms come to are rooms -/
theorem going_lt (cell : CellF) {asks many : Nat} (cl : ∀ r, r < many → ∀ a, a < asks → ∀ g, (cell r a).1 = some g → g < many) :
    ∀ (xs : List Nat) (h : Option Nat) (e : Nat), AsksOk asks xs → (∀ r, h = some r → r < many) → (going cell xs h).2 = some e → e < many
  | [], h, e, _, hr, q => hr e (by simpa [going] using q)
  | _ :: _, none, e, _, _, q => by simp [going] at q
  | a :: xs, some r, e, ha, hr, q => going_lt cell cl xs (cell r a).1 e (fun b hb => ha b (List.mem_cons_of_mem _ hb))
      (fun g hg => cl r (hr r rfl) a (ha a List.mem_cons_self) g hg) q
theorem take_succ {α : Type} {l : List α} {i : Nat} {x : α} (h : l[i]? = some x) : l.take (i + 1) = l.take i ++ [x] := by
  rw [List.take_add_one, h]
  rfl

/-! ## heaps -/
/-- all that was tracked stands, but for what stands at p -/
def Keep (p : Addr) (H H' : Hp) : Prop := ∀ b o, b ≠ p → H b = some o → H' b = some o
/-- the tuples stand -/
def TupKeep (H H' : Hp) : Prop := ∀ b xs, H b = some (.tup xs) → H' b = some (.tup xs)
section
variable {K : PySem.W.Frag} {p q a sc : Addr} {H H' H1 H2 : Hp} {o : HO} {xs l : List V} {ns : List Int} {n m : Nat}
theorem Keep.refl (p : Addr) (H : Hp) : Keep p H H := fun _ _ _ h => h
theorem Keep.trans (x : Keep p H H1) (y : Keep p H1 H2) : Keep p H H2 := fun c o n h => y c o n (x c o n h)
theorem Keep.of (s : Same H H') : Keep p H H' := fun b o _ h => s b o h
theorem Keep.put : Keep p H (upd H p o) := fun b u n h => by
  rw [upd_ne n]
  exact h
theorem same_new (h : H q = none) : Same H (upd H q o) := fun b u e => by
  rw [upd_ne (ne_of_none e h)]
  exact e
theorem Keep.new (h : H q = none) : Keep p H (upd H q o) := .of (same_new h)
theorem Keep.free (k : Keep p H H') (n : a ≠ p) (h : H' a = none) : H a = none := by
  cases e : H a with
  | none => rfl
  | some u =>
    rw [k a u n e] at h
    cases h
theorem Keep.tk (k : Keep p H H') (hp : H p = some (.lst l)) : TupKeep H H' := fun b xs e => k b _ (ne_of e hp (by intro q; cases q)) e
theorem TupKeep.refl (H : Hp) : TupKeep H H := fun _ _ h => h
theorem TupKeep.trans (x : TupKeep H H1) (y : TupKeep H1 H2) : TupKeep H H2 := fun b xs e => y b xs (x b xs e)
theorem tk_same (s : Same H H') : TupKeep H H' := fun b xs e => s b _ e
theorem tk_new (h : H q = none) : TupKeep H (upd H q o) := tk_same (same_new h)
theorem tk_lst (hp : H q = some (.lst l)) : TupKeep H (upd H q o) := fun b xs e => by
  rw [upd_ne (ne_of e hp (by intro z; cases z))]
  exact e
theorem Keep.seq (k : Keep p H H') (n : a ≠ p) (h : SqL K H a xs) : SqL K H' a xs := by
  rcases h with (h | ⟨o, h⟩) | h
  · exact .inl (.inl (k _ _ n h))
  · exact .inl (.inr ⟨o, k _ _ n h⟩)
  · exact .inr h
/-- the pen: the script, how many takes there were (n), what is left of a great cell -/
structure Pen (K : PySem.W.Frag) (p sc : Addr) (ns : List Int) (n : Nat) (H : Hp) : Prop where
  st : ∃ d : Int, H p = some (.lst [.ref sc, .int (n : Nat), .int d])
  sq : SqL K H sc (ns.map V.int)
  ne : sc ≠ p ∨ ∀ G : Hp, SqL K G sc (ns.map V.int)
theorem Pen.seq (P : Pen K p sc ns n H) (k : Keep p H H') : SqL K H' sc (ns.map V.int) := P.ne.elim (fun h => k.seq h P.sq) fun h => h H'
theorem Pen.same (P : Pen K p sc ns n H) (s : Same H H') : Pen K p sc ns n H' :=
  let ⟨d, e⟩ := P.st
  ⟨⟨d, s _ _ e⟩, s.seq P.sq, P.ne⟩
theorem Pen.move {d : Int} (P : Pen K p sc ns n H) (k : Keep p H H') (e : H' p = some (.lst [.ref sc, .int (m : Nat), .int d])) : Pen K p sc ns m H' := ⟨⟨d, e⟩, P.seq k, P.ne⟩
theorem Pen.put (P : Pen K p sc ns n H) (d : Int) : Pen K p sc ns m (upd H p (.lst [.ref sc, .int (m : Nat), .int d])) := P.move .put upd_same
/-- the pen at the law's begin -/
theorem Pen.first (hS : SqL K H sc (ns.map V.int)) (hp : H p = none) : Pen K p sc ns 0 (upd H p (.lst [.ref sc, .int 0, .int 0])) := by
  refine ⟨⟨0, upd_same⟩, (same_new hp).seq hS, ?_⟩
  rcases hS with (h | ⟨o, h⟩) | h
  · exact .inl (ne_of_none h hp)
  · exact .inl (ne_of_none h hp)
  · exact .inr fun _ => .inr h
theorem Pen.fresh {l : Addr} (P : Pen K p sc ns n H) (h : H l = none) : l ≠ p := fun e => by
  obtain ⟨d, q⟩ := P.st
  rw [e, q] at h
  cases h
/-- a list that was made on the way is written -/
theorem Pen.push {l : Addr} (PN : Pen K p sc ns n H) (hl : H l = none) (k : Keep p H H') (P : Pen K p sc ns m H') (o : HO) : Keep p H (upd H' l o) ∧ Pen K p sc ns m (upd H' l o) := by
  obtain ⟨d, q⟩ := P.st
  have k' : Keep p H (upd H' l o) := fun b u nb e => by
    rw [upd_ne (ne_of_none e hl)]
    exact k b u nb e
  exact ⟨k', PN.move k' (by rw [upd_ne (PN.fresh hl).symm]; exact q)⟩
theorem Pen.tk (P : Pen K p sc ns n H) (k : Keep p H H') : TupKeep H H' :=
  let ⟨_, e⟩ := P.st
  k.tk e
end

/-! ## machines and rows -/
def vG : Option Nat → V
  | none => .non
  | some g => .int (g : Nat)
def vS : Option Int → V
  | none => .non
  | some s => .int s
def CellOk (many : Nat) (H : Hp) (c : Addr) : Prop := ∃ (g : Option Nat) (s : Option Int), H c = some (.tup [vG g, vS s]) ∧ ∀ x, g = some x → x < many
def RoomOk (asks many : Nat) (H : Hp) (r : Addr) : Prop := ∃ cas : List Addr, cas.length = asks ∧ H r = some (.tup (cas.map V.ref)) ∧ ∀ c, c ∈ cas → CellOk many H c
structure Mach (H : Hp) (m : Addr) (asks many : Nat) (cell : CellF) : Prop where
  a1 : 1 ≤ asks
  a4 : asks ≤ 4
  m1 : 1 ≤ many
  m24 : many ≤ 24
  ok : ∀ r, r < many → ∀ a, a < asks → ∀ g, (cell r a).1 = some g → g < many
  st : ∃ (rs : Addr) (ras : List Addr), ras.length = many ∧ H m = some (.tup [.int (asks : Nat), .ref rs]) ∧ H rs = some (.tup (ras.map V.ref)) ∧
    ∀ r, r < many → ∃ (ra : Addr) (cas : List Addr), ras[r]? = some ra ∧ H ra = some (.tup (cas.map V.ref)) ∧
      ∀ a, a < asks → ∃ c : Addr, cas[a]? = some c ∧ H c = some (.tup [vG (cell r a).1, vS (cell r a).2])
def RowAt (H : Hp) (t : Addr) (row : List Nat) : Prop := H t = some (.tup (row.map fun (a : Nat) => V.int (a : Nat)))
section
variable {H H' : Hp} {r m t : Addr} {asks many : Nat} {cell : CellF} {row : List Nat}
theorem CellOk.tk (h : CellOk many H r) (k : TupKeep H H') : CellOk many H' r :=
  let ⟨g, s, e, l⟩ := h
  ⟨g, s, k _ _ e, l⟩
theorem RoomOk.tk (h : RoomOk asks many H r) (k : TupKeep H H') : RoomOk asks many H' r :=
  let ⟨cas, e, e2, l⟩ := h
  ⟨cas, e, k _ _ e2, fun c hc => (l c hc).tk k⟩
theorem Mach.tk (h : Mach H m asks many cell) (k : TupKeep H H') : Mach H' m asks many cell := by
  obtain ⟨rs, ras, e1, e2, e3, l⟩ := h.st
  refine ⟨h.a1, h.a4, h.m1, h.m24, h.ok, rs, ras, e1, k _ _ e2, k _ _ e3, fun r hr => ?_⟩
  obtain ⟨ra, cas, f1, f2, l2⟩ := l r hr
  refine ⟨ra, cas, f1, k _ _ f2, fun a ha => ?_⟩
  obtain ⟨c, g1, g2⟩ := l2 a ha
  exact ⟨c, g1, k _ _ g2⟩
theorem RowAt.tk (h : RowAt H t row) (k : TupKeep H H') : RowAt H' t row := k _ _ h
theorem mach_mk {rs : Addr} {ras : List Addr} (a1 : 1 ≤ asks) (a4 : asks ≤ 4) (m1 : 1 ≤ many) (m24 : many ≤ 24) (hl : ras.length = many) (h1 : H m = some (.tup [.int (asks : Nat), .ref rs])) (h2 : H rs = some (.tup (ras.map V.ref)))
    (hr : ∀ r, r ∈ ras → RoomOk asks many H r) : ∃ cell : CellF, Mach H m asks many cell := by
  have one : ∀ (r a : Nat), ∃ gs : Option Nat × Option Int, ∀ (ra : Addr) (cas : List Addr) (c : Addr), ras[r]? = some ra → H ra = some (.tup (cas.map V.ref)) → cas[a]? = some c →
      H c = some (.tup [vG gs.1, vS gs.2]) ∧ ∀ g, gs.1 = some g → g < many := by
    intro r a
    by_cases hc : ∃ (ra : Addr) (cas : List Addr) (c : Addr), ras[r]? = some ra ∧ H ra = some (.tup (cas.map V.ref)) ∧ cas[a]? = some c
    · obtain ⟨ra, cas, c, e1, e2, e3⟩ := hc
      obtain ⟨cas', el, e2', l⟩ := hr ra (List.mem_of_getElem? e1)
      have ec : cas' = cas := by
        have q := e2.symm.trans e2'
        have q2 : cas.map V.ref = cas'.map V.ref := HO.tup.inj (Option.some.inj q)
        exact (List.map_inj_right (fun x y h => V.ref.inj h)).mp q2.symm
      subst ec
      obtain ⟨g, s, f1, f2⟩ := l c (List.mem_of_getElem? e3)
      refine ⟨(g, s), fun ra' cas'' c' q1 q2 q3 => ?_⟩
      have w1 : ra = ra' := Option.some.inj (e1.symm.trans q1)
      subst w1
      have w2 : cas'.map V.ref = cas''.map V.ref := HO.tup.inj (Option.some.inj (e2.symm.trans q2))
      have w3 : cas' = cas'' := (List.map_inj_right (fun x y h => V.ref.inj h)).mp w2
      subst w3
      have w4 : c = c' := Option.some.inj (e3.symm.trans q3)
      subst w4
      exact ⟨f1, f2⟩
    · exact ⟨(none, none), fun ra cas c q1 q2 q3 => absurd ⟨ra, cas, c, q1, q2, q3⟩ hc⟩
  refine ⟨fun r a => Classical.choose (one r a), a1, a4, m1, m24, fun r hr' a ha g hg => ?_, rs, ras, hl, h1, h2, fun r hr' => ?_⟩
  · have hlt : r < ras.length := by omega
    obtain ⟨cas, el, e2, l⟩ := hr ras[r] (List.getElem_mem hlt)
    have hla : a < cas.length := by omega
    exact (Classical.choose_spec (one r a) ras[r] cas cas[a] (List.getElem?_eq_getElem hlt) e2 (List.getElem?_eq_getElem hla)).2 g hg
  · have hlt : r < ras.length := by omega
    obtain ⟨cas, el, e2, l⟩ := hr ras[r] (List.getElem_mem hlt)
    refine ⟨ras[r], cas, List.getElem?_eq_getElem hlt, e2, fun a ha => ?_⟩
    have hla : a < cas.length := by omega
    exact ⟨cas[a], List.getElem?_eq_getElem hla, (Classical.choose_spec (one r a) ras[r] cas cas[a] (List.getElem?_eq_getElem hlt) e2 (List.getElem?_eq_getElem hla)).1⟩
end
/-- a test, with a word between it and its two ways -/
def tMid (t : TT) : TT := fun σ H Q => ∃ M : Bool → Hp → Prop, t σ H M ∧ ∀ b H', M b H' → Q b H'
theorem pt_mid {X : Cx} {e : Expr} {t : TT} (h : PT X e t) : PT X e (tMid t) :=
  ⟨fun pins s σ H Q I ⟨M, hm, hq⟩ => thn (h.run pins s σ H M I hm) fun b s' ⟨H', I', q⟩ => ⟨H', I', hq b H' q⟩⟩
/-- an expression, with a word behind it -/
def tMidE (t : TE) : TE := fun σ H Q => ∃ M : V → Hp → Prop, t σ H M ∧ ∀ v H', M v H' → Q v H'
theorem pe_mid {X : Cx} {e : Expr} {t : TE} (h : PE X e t) : PE X e (tMidE t) :=
  ⟨fun pins s σ H Q I ⟨M, hm, hq⟩ => thn (h.run pins s σ H M I hm) fun b s' ⟨v, H', I', r, q⟩ => ⟨v, H', I', r, hq v H' q⟩⟩
theorem sz {n : Nat} (h : n ≤ 1000) : n ≤ sizeLine := Nat.le_of_lt (small1000 h)
end K05

namespace K05
open PySem PySem.Spec PyProof.Rows L2
/-! ## _law_take: a number from 0 to below many, at most one more take -/
theorem scTake : FnScope ["_law_pen", "_law_many", "_law_digit", "_law_at", "_law_cell_here", "_law_primes", "_law_prime", "_law_number"] ["_law_pen", "_law_many"] (defScope sTake) := ⟨rfl, rfl, rfl, by decide +kernel, rfl, by decide +kernel, by decide +kernel⟩
def spTake (K : PySem.W.Frag) : Sp := fun vs H Q _ => ∃ (p sc : Addr) (ns : List Int) (n : Nat) (m : Int), vs = [.ref p, .int m] ∧ Pen K p sc ns n H ∧ 0 < m ∧ m < 1073741824 ∧ n < 1000000 ∧
  ∀ (d : Int) (n' : Nat) (H' : Hp), 0 ≤ d → d < m → n' ≤ n + 1 → Keep p H H' → Pen K p sc ns n' H' → Q (.int d) H'
def primes : List V := [.int 2147483647, .int 2147483629, .int 2147483587, .int 2147483579, .int 2147483563, .int 2147483549, .int 2147483543]
theorem primes_at (z : Int) (h0 : 0 ≤ z) (h7 : z < 7) : ∃ q : Int, atI primes z = some (.int q) ∧ 0 < q ∧ q < 2147483648 := by
  obtain ⟨j, rfl⟩ : ∃ j : Nat, z = (j : Int) := ⟨z.toNat, by omega⟩
  have hj : j < 7 := by omega
  match j, hj with
  | 0, _ => exact ⟨2147483647, atI_nat (j := 0) rfl, by decide, by decide⟩
  | 1, _ => exact ⟨2147483629, atI_nat (j := 1) rfl, by decide, by decide⟩
  | 2, _ => exact ⟨2147483587, atI_nat (j := 2) rfl, by decide, by decide⟩
  | 3, _ => exact ⟨2147483579, atI_nat (j := 3) rfl, by decide, by decide⟩
  | 4, _ => exact ⟨2147483563, atI_nat (j := 4) rfl, by decide, by decide⟩
  | 5, _ => exact ⟨2147483549, atI_nat (j := 5) rfl, by decide, by decide⟩
  | 6, _ => exact ⟨2147483543, atI_nat (j := 6) rfl, by decide, by decide⟩
  | j + 7, h => omega
theorem ints_at {ns : List Int} {z : Int} (h0 : 0 ≤ z) (h : z < (ns.length : Int)) : ∃ c : Int, atI (ns.map V.int) z = some (.int c) := by
  obtain ⟨j, rfl⟩ : ∃ j : Nat, z = (j : Int) := ⟨z.toNat, by omega⟩
  have hj : j < ns.length := by omega
  exact ⟨ns[j], atI_nat (by rw [List.getElem?_map, List.getElem?_eq_getElem hj]; rfl)⟩
section
variable {P : Program} {w : World} {K : PySem.W.Frag} {mg : Str → Option Value} {base : Heap}
theorem ok_take {f : Addr} {fd : FuncData} (F : Fun K "_law_take" "_law_take" sTake f fd) (ml : mg "len" = none) (ma : mg "abs" = none) : FnOk P w K mg base CX0 1 f fd ["_law_pen", "_law_many"] (spTake K) := by
  refine F.ok scTake (fun vs H Q E h => ?_) (fun cdv A outer s H vs Q E hr h => ?_)
  · obtain ⟨p, sc, ns, n, m, rfl, _⟩ := h
    rfl
  · obtain ⟨p, sc, ns, n, m, rfl, PN, m0, mh, hn, k⟩ := h
    obtain ⟨d, hp⟩ := PN.st
    have hpS : SqL K H p [.ref sc, .int (n : Nat), .int d] := .of hp
    refine ⟨_, pss_cons (ps_if (pt_cmpR op_gt (pe_ix ix_list (pv 0) pe_int (fun _ _ => rfl)) pe_int (nomark _))
        (pss_cons (ps_set (i := 2) scTake.nd rfl (.inl rfl) (pe_op op_mod (pe_ix ix_list (pv 0) pe_int (fun _ _ => rfl)) (pv 1)))
        (pss_cons (ps_asg (pe_op op_fdiv (pe_ix ix_list (pv 0) pe_int (fun _ _ => rfl)) (pv 1)) (pg_sub (pv 0) pe_int set_list))
        (pss_one (ps_ret (pv 2))))) pss_nil)
      (pss_cons (ps_set (i := 3) scTake.nd rfl (.inl rfl) (pe_ix ix_list (pv 0) pe_int (fun _ _ => rfl)))
      (C8.pss_cut (ps_asg (pe_op op_add (pv 3) pe_int) (pg_sub (pv 0) pe_int set_list))
      (pss_cons (ps_set (i := 4) scTake.nd rfl (.inl rfl) pe_int)
      (C8.pss_cut (ps_if (pt_cmpR op_gt (pe_callB call_len_seq (by rfl) ml PySem.boot_len (pa_cons (pe_ix ix_list (pv 0) pe_int (fun _ _ => rfl)) pa_nil)) pe_int (nomark _))
        (pss_one (ps_set (i := 4) scTake.nd rfl (.inl rfl) (pe_ix ix_list (pe_ix ix_list (pv 0) pe_int (fun _ _ => rfl))
          (pe_op op_mod (pv 3) (pe_callB call_len_seq (by rfl) ml PySem.boot_len (pa_cons (pe_ix ix_list (pv 0) pe_int (fun _ _ => rfl)) pa_nil))) (fun _ _ => rfl)))) pss_nil)
      (C8.pss_cut (ps_if (PW.pt (pw_and (pt_cmpR op_lt (pv 3) (pe_callB call_len_seq (by rfl) ml PySem.boot_len (pa_cons (pe_ix ix_list (pv 0) pe_int (fun _ _ => rfl)) pa_nil)) (nomark _))
          (pw_and1 (pt_cmpR op_ge (pe_callB call_abs (by rfl) ma (by decide +kernel) (pa_cons (pv 4) pa_nil)) (pe_op op_pow pe_int pe_int) (nomark _)))))
        (pss_cons (ps_asg (pe_op op_fdiv (pe_callB call_abs (by rfl) ma (by decide +kernel) (pa_cons (pv 4) pa_nil)) (pv 1)) (pg_sub (pv 0) pe_int set_list))
        (pss_one (ps_ret (pe_op op_mod (pe_callB call_abs (by rfl) ma (by decide +kernel) (pa_cons (pv 4) pa_nil)) (pv 1))))) pss_nil)
      (C8.pss_cut (ps_set (i := 5) scTake.nd rfl (.inl rfl) (pe_lst (pa_cons pe_int (pa_cons pe_int (pa_cons pe_int (pa_cons pe_int (pa_cons pe_int (pa_cons pe_int (pa_cons pe_int pa_nil)))))))))
      (pss_cons (ps_set (i := 6) scTake.nd rfl (.inl rfl) (pe_ix ix_list (pv 5) (pe_op op_mod (pv 3) pe_int) (fun _ _ => rfl)))
      (C8.pss_cut (ps_set (i := 7) scTake.nd rfl (.inl rfl) (pe_op op_mod (pe_op op_add (pe_op op_add (pe_op op_mul (pe_op op_mod (pv 4) (pv 6)) pe_int) (pe_op op_mul pe_int (pv 3))) pe_int) (pv 6)))
      (C8.pss_cut (ps_set (i := 7) scTake.nd rfl (.inl rfl) (pe_op op_mod (pe_op op_add (pe_op op_add (pe_op op_mul (pe_op op_pow (pv 7) pe_int) pe_int) (pe_op op_mul (pv 3) (pv 3))) pe_int)
          (pe_ix ix_list (pv 5) (pe_op op_mod (pe_op op_add (pv 3) pe_int) pe_int) (fun _ _ => rfl))))
      (pss_one (ps_ret (pe_op op_mod (pe_op op_fdiv (pv 7) pe_int) (pv 1))))))))))))), ?_⟩
    -- if pen[2] > 0
    refine ⟨.ref p, rfl, p, _, 2, .int d, rfl, rfl, hpS, atI_nat (j := 2) rfl, d, 0, rfl, rfl, _, rfl, ite2 (fun c => ?_) (fun c => ?_)⟩
    · -- a digit of what is left
      refine ⟨.ref p, rfl, p, _, 2, .int d, rfl, rfl, hpS, atI_nat (j := 2) rfl, .int m, rfl, d, m, rfl, rfl, m0, ?_⟩
      refine ⟨.ref p, rfl, p, _, 2, .int d, rfl, rfl, hpS, atI_nat (j := 2) rfl, .int m, rfl, d, m, rfl, rfl, ⟨m0, mh⟩, ?_⟩
      refine ⟨.ref p, rfl, p, _, 2, 2, rfl, rfl, hp, rfl, ?_⟩
      refine ⟨_, rfl, ?_⟩
      exact k (d % m) n _ (Int.emod_nonneg _ (by omega)) (Int.emod_lt_of_pos _ m0) (Nat.le_succ _) .put (PN.put _)
    -- at = pen[1]
    refine ⟨.ref p, rfl, p, _, 1, .int (n : Nat), rfl, rfl, hpS, atI_nat (j := 1) rfl, ?_⟩
    -- pen[1] = at + 1
    refine ⟨fun σ' H' => σ' = [some (.ref p), some (.int m), none, some (.int (n : Nat)), none, none, none, none] ∧ Keep p H H' ∧ Pen K p sc ns (n + 1) H',
      ⟨.int (n : Nat), rfl, _, 1, rfl, rfl, .ref p, rfl, p, _, 1, 1, rfl, rfl, hp, rfl, rfl, .put, PN.put d⟩, ?_⟩
    rintro _ H1 ⟨rfl, K1, P1⟩
    obtain ⟨d1, hp1⟩ := P1.st
    have hpS1 : SqL K H1 p [.ref sc, .int ((n + 1 : Nat) : Int), .int d1] := .of hp1
    -- cell = 7; if len(pen[0]) > 0
    refine ⟨fun σ' H' => (∃ z : Int, σ' = [some (.ref p), some (.int m), none, some (.int (n : Nat)), some (.int z), none, none, none]) ∧ H' = H1,
      ⟨.ref p, rfl, p, _, 0, .ref sc, rfl, rfl, hpS1, atI_nat (j := 0) rfl, sc, _, rfl, .inl P1.sq, _, 0, rfl, rfl, _, rfl, ite2 (fun c1 => ?_) (fun c1 => ?_)⟩, ?_⟩
    · have c2 : (0 : Int) < (((ns.map V.int).length : Nat) : Int) := of_decide_eq_true c1
      rw [List.length_map] at c2
      have c3 : (n : Int) % (((ns.map V.int).length : Nat) : Int) < (ns.length : Int) := by
        rw [List.length_map]
        exact Int.emod_lt_of_pos _ c2
      obtain ⟨z, hz⟩ := ints_at (ns := ns) (z := (n : Int) % (((ns.map V.int).length : Nat) : Int)) (Int.emod_nonneg _ (by rw [List.length_map]; omega)) c3
      refine ⟨.ref p, rfl, p, _, 0, .ref sc, rfl, rfl, hpS1, atI_nat (j := 0) rfl, .int (n : Nat), rfl, .ref p, rfl, p, _, 0, .ref sc, rfl, rfl, hpS1, atI_nat (j := 0) rfl, sc, _, rfl, .inl P1.sq,
        _, _, rfl, rfl, (by show (0 : Int) < (((ns.map V.int).length : Nat) : Int); rw [List.length_map]; exact c2), sc, _, _, .int z, rfl, rfl, P1.sq, hz, ⟨z, rfl⟩, rfl⟩
    · exact ⟨⟨7, rfl⟩, rfl⟩
    rintro _ H1 ⟨⟨z, rfl⟩, rfl⟩
    have za : (if z < 0 then -z else z) % m < m := Int.emod_lt_of_pos _ m0
    have zb : 0 ≤ (if z < 0 then -z else z) % m := Int.emod_nonneg _ (by omega)
    -- if at < len(pen[0]) and abs(cell) >= 10 ** 18
    refine ⟨fun σ' H' => σ' = [some (.ref p), some (.int m), none, some (.int (n : Nat)), some (.int z), none, none, none] ∧ H' = H1,
      ⟨.int (n : Nat), rfl, .ref p, rfl, p, _, 0, .ref sc, rfl, rfl, hpS1, atI_nat (j := 0) rfl, sc, _, rfl, .inl P1.sq, _, _, rfl, rfl, _, rfl, ite2 (fun c1 => ?_) (fun c1 => ?_)⟩, ?_⟩
    · refine ⟨.int z, rfl, z, rfl, _, _, rfl, rfl, ⟨by decide, by decide, by decide⟩, _, _, rfl, rfl, _, rfl, ite2 (fun c2 => ?_) (fun c2 => ?_)⟩
      · refine ⟨.int z, rfl, z, rfl, .int m, rfl, _, m, rfl, rfl, ⟨m0, mh⟩, .ref p, rfl, p, _, 2, 2, rfl, rfl, hp1, rfl, ?_⟩
        refine ⟨.int z, rfl, z, rfl, .int m, rfl, _, m, rfl, rfl, m0, ?_⟩
        exact k _ (n + 1) _ zb za (Nat.le_refl _) (K1.trans .put) (P1.put _)
      · exact ⟨rfl, rfl⟩
    · exact iteF ⟨rfl, rfl⟩
    rintro _ H1 ⟨rfl, rfl⟩
    -- the primes
    refine ⟨fun σ' H' => ∃ l : Addr, σ' = [some (.ref p), some (.int m), none, some (.int (n : Nat)), some (.int z), some (.ref l), none, none] ∧ H' l = some (.lst primes) ∧ Keep p H H' ∧ Pen K p sc ns (n + 1) H',
      ⟨by show 7 ≤ sizeLine; decide, fun l hl => ⟨l, rfl, upd_same, K1.trans (.new hl), P1.same (same_new hl)⟩⟩, ?_⟩
    rintro _ H2 ⟨l, rfl, hl, K2, P2⟩
    have hlS : SqL K H2 l primes := .of hl
    obtain ⟨q, hq, q0, q1⟩ := primes_at ((n : Int) % 7) (Int.emod_nonneg _ (by decide)) (Int.emod_lt_of_pos _ (by decide))
    obtain ⟨u, hu, u0, u1⟩ := primes_at (((n : Int) + 3) % 7) (Int.emod_nonneg _ (by decide)) (Int.emod_lt_of_pos _ (by decide))
    refine ⟨.ref l, rfl, .int (n : Nat), rfl, _, 7, rfl, rfl, (by show (0 : Int) < 7; decide), l, _, _, .int q, rfl, rfl, hlS, hq, ?_⟩
    -- mixed once
    refine ⟨fun σ' H' => (∃ y : Int, 0 ≤ y ∧ y < 2147483648 ∧ σ' = [some (.ref p), some (.int m), none, some (.int (n : Nat)), some (.int z), some (.ref l), some (.int q), some (.int y)]) ∧ H' = H2,
      ⟨.int z, rfl, .int q, rfl, z, q, rfl, rfl, q0, _, _, rfl, rfl, .inr ⟨by decide, by decide⟩, .int (n : Nat), rfl, _, _, rfl, rfl, .inl ⟨by decide, by decide⟩, _, _, rfl, rfl, _, _, rfl, rfl, .int q, rfl, _, q, rfl, rfl, q0,
        ⟨_, Int.emod_nonneg _ (by omega), Int.lt_trans (Int.emod_lt_of_pos _ q0) q1, rfl⟩, rfl⟩, ?_⟩
    rintro _ H2 ⟨⟨y, y0, y1, rfl⟩, rfl⟩
    -- mixed twice
    refine ⟨fun σ' H' => (∃ y : Int, σ' = [some (.ref p), some (.int m), none, some (.int (n : Nat)), some (.int z), some (.ref l), some (.int q), some (.int y)]) ∧ H' = H2,
      ⟨.int y, rfl, _, _, rfl, rfl, ⟨by decide, by decide, by omega⟩, _, _, rfl, rfl, .inr ⟨by decide, by decide⟩, .int (n : Nat), rfl, .int (n : Nat), rfl, _, _, rfl, rfl, .inl ⟨by omega, by omega⟩, _, _, rfl, rfl, _, _, rfl, rfl,
        .ref l, rfl, .int (n : Nat), rfl, _, _, rfl, rfl, _, _, rfl, rfl, (by show (0 : Int) < 7; decide), l, _, _, .int u, rfl, rfl, hlS, hu, _, _, rfl, rfl, u0, ⟨_, rfl⟩, rfl⟩, ?_⟩
    rintro _ H2 ⟨⟨y', rfl⟩, rfl⟩
    -- return number // 64 % many
    refine ⟨.int y', rfl, _, _, rfl, rfl, ⟨by decide, by decide⟩, .int m, rfl, _, _, rfl, rfl, m0, ?_⟩
    exact k _ (n + 1) _ (Int.emod_nonneg _ (by omega)) (Int.emod_lt_of_pos _ m0) (Nat.le_refl _) K2 P2
end
end K05

namespace K05
open PySem PySem.Spec PyProof.Rows L2
/-! ## _law_cell: a cell, at most four takes -/
theorem scCell : FnScope ["_law_pen", "_law_many", "_law_share", "_law_kinds", "_law_goes", "_law_tells"] ["_law_pen", "_law_many", "_law_share", "_law_kinds"] (defScope sCell) := ⟨rfl, rfl, rfl, by decide +kernel, rfl, by decide +kernel, by decide +kernel⟩
def spCell (K : PySem.W.Frag) : Sp := fun vs H Q _ => ∃ (p sc : Addr) (ns : List Int) (n many : Nat) (share kinds : Int), vs = [.ref p, .int (many : Nat), .int share, .int kinds] ∧ Pen K p sc ns n H ∧
  1 ≤ many ∧ many ≤ 24 ∧ 0 < kinds ∧ kinds ≤ 8 ∧ n + 4 < 1000000 ∧
  ∀ (c : Addr) (n' : Nat) (H' : Hp), n' ≤ n + 4 → Keep p H H' → Pen K p sc ns n' H' → CellOk many H' c → Q (.ref c) H'
/-! ## _law_near: a room like another one, at most two takes a cell -/
theorem scNear : FnScope ["_law_pen", "_law_room", "_law_many", "_law_kinds", "_law_cells", "_law_cell_here", "_law_way", "_law_goes", "_law_tells"] ["_law_pen", "_law_room", "_law_many", "_law_kinds"] (defScope sNear) := ⟨rfl, rfl, rfl, by decide +kernel, rfl, by decide +kernel, by decide +kernel⟩
def spNear (K : PySem.W.Frag) : Sp := fun vs H Q _ => ∃ (p r sc : Addr) (ns : List Int) (n asks many : Nat) (kinds : Int), vs = [.ref p, .ref r, .int (many : Nat), .int kinds] ∧ Pen K p sc ns n H ∧ RoomOk asks many H r ∧
  asks ≤ 4 ∧ 1 ≤ many ∧ many ≤ 24 ∧ 0 < kinds ∧ kinds ≤ 8 ∧ n + 8 < 1000000 ∧
  ∀ (r' : Addr) (n' : Nat) (H' : Hp), n' ≤ n + 8 → Keep p H H' → Pen K p sc ns n' H' → RoomOk asks many H' r' → Q (.ref r') H'
theorem vG_int {many : Nat} {d : Int} (h0 : 0 ≤ d) (h1 : d < (many : Int)) : ∃ g : Nat, V.int d = vG (some g) ∧ g < many := by
  obtain ⟨j, rfl⟩ : ∃ j : Nat, d = (j : Int) := ⟨d.toNat, by omega⟩
  exact ⟨j, rfl, by omega⟩
section
variable {P : Program} {w : World} {K : PySem.W.Frag} {mg : Str → Option Value} {base : Heap}
theorem ok_cell {f fT : Addr} {fd fdT : FuncData} (F : Fun K "_law_cell" "_law_cell" sCell f fd)
    (G : FnOk P w K mg base CX0 1 fT fdT ["_law_pen", "_law_many"] (spTake K)) (bT : Binds K fdT ["_law_pen", "_law_many"] []) (kT : PySem.W.keepIn K (.ref fT) = true) (mT : mg "_law_take" = some (.ref fT)) :
    FnOk P w K mg base CX0 2 f fd ["_law_pen", "_law_many", "_law_share", "_law_kinds"] (spCell K) := by
  refine F.ok scCell (fun vs H Q E h => ?_) (fun cdv A outer s H vs Q E hr h => ?_)
  · obtain ⟨p, sc, ns, n, many, share, kinds, rfl, _⟩ := h
    rfl
  · obtain ⟨p, sc, ns, n, many, share, kinds, rfl, PN, m1, m24, k0, k8, hn, k⟩ := h
    refine ⟨_, pss_cons (ps_set (i := 4) scCell.nd rfl (.inl rfl) pe_non)
      (C8.pss_cut (ps_if (pt_cmpR op_ge (pe_call G hr (by rfl) mT kT bT .nil pass0 (pa_cons (pv 0) (pa_cons pe_int pa_nil))) (pv 2) (nomark _))
        (pss_one (ps_set (i := 4) scCell.nd rfl (.inl rfl) (pe_call G hr (by rfl) mT kT bT .nil pass0 (pa_cons (pv 0) (pa_cons (pv 1) pa_nil))))) pss_nil)
      (pss_cons (ps_set (i := 5) scCell.nd rfl (.inl rfl) pe_non)
      (C8.pss_cut (ps_if (pt_cmpR op_ge (pe_call G hr (by rfl) mT kT bT .nil pass0 (pa_cons (pv 0) (pa_cons pe_int pa_nil))) (pv 2) (nomark _))
        (pss_one (ps_set (i := 5) scCell.nd rfl (.inl rfl) (pe_call G hr (by rfl) mT kT bT .nil pass0 (pa_cons (pv 0) (pa_cons (pv 3) pa_nil))))) pss_nil)
      (pss_one (ps_ret (pe_tup (pa_cons (pv 4) (pa_cons (pv 5) pa_nil)))))))), ?_⟩
    -- goes
    refine ⟨fun σ' H' => ∃ (g : Option Nat) (n1 : Nat), σ' = [some (.ref p), some (.int (many : Nat)), some (.int share), some (.int kinds), some (vG g), none] ∧ (∀ x, g = some x → x < many) ∧ n1 ≤ n + 2 ∧ Keep p H H' ∧ Pen K p sc ns n1 H',
      ⟨.ref p, rfl, p, sc, ns, n, 8, rfl, PN, by decide, by decide, by omega, fun d n1 H1 d0 d1 hn1 K1 P1 => ⟨.int share, rfl, _, _, rfl, rfl, _, rfl, ite2 (fun _ => ?_) (fun _ => ?_)⟩⟩, ?_⟩
    · refine ⟨.ref p, rfl, .int (many : Nat), rfl, p, sc, ns, n1, _, rfl, P1, by omega, by omega, by omega, fun e n2 H2 e0 e1 hn2 K2 P2 => ?_⟩
      obtain ⟨g, eg, hg⟩ := vG_int e0 e1
      exact ⟨some g, n2, by rw [eg]; rfl, fun x hx => Option.some.inj hx ▸ hg, by omega, K1.trans K2, P2⟩
    · exact ⟨none, n1, rfl, fun x hx => (nomatch hx), by omega, K1, P1⟩
    rintro _ H1 ⟨g, n1, rfl, hg, hn1, K1, P1⟩
    -- tells
    refine ⟨fun σ' H' => ∃ (t : Option Int) (n2 : Nat), σ' = [some (.ref p), some (.int (many : Nat)), some (.int share), some (.int kinds), some (vG g), some (vS t)] ∧ n2 ≤ n + 4 ∧ Keep p H H' ∧ Pen K p sc ns n2 H',
      ⟨.ref p, rfl, p, sc, ns, n1, 8, rfl, P1, by decide, by decide, by omega, fun d n2 H2 d0 d1 hn2 K2 P2 => ⟨.int share, rfl, _, _, rfl, rfl, _, rfl, ite2 (fun _ => ?_) (fun _ => ?_)⟩⟩, ?_⟩
    · refine ⟨.ref p, rfl, .int kinds, rfl, p, sc, ns, n2, _, rfl, P2, by omega, by omega, by omega, fun e n3 H3 e0 e1 hn3 K3 P3 => ?_⟩
      exact ⟨some e, n3, rfl, by omega, (K1.trans K2).trans K3, P3⟩
    · exact ⟨none, n2, rfl, by omega, K1.trans K2, P2⟩
    rintro _ H2 ⟨t, n2, rfl, hn2, K2, P2⟩
    -- return (goes, tells)
    refine ⟨vG g, rfl, vS t, rfl, (by show 2 ≤ sizeLine; decide), fun c hc => ?_⟩
    exact k c n2 _ hn2 (K2.trans (.new hc)) (P2.same (same_new hc)) ⟨g, t, upd_same, hg⟩
theorem ok_near {f fT : Addr} {fd fdT : FuncData} (F : Fun K "_law_near" "_law_near" sNear f fd) (mt : mg "tuple" = none)
    (G : FnOk P w K mg base CX0 1 fT fdT ["_law_pen", "_law_many"] (spTake K)) (bT : Binds K fdT ["_law_pen", "_law_many"] []) (kT : PySem.W.keepIn K (.ref fT) = true) (mT : mg "_law_take" = some (.ref fT)) :
    FnOk P w K mg base CX0 2 f fd ["_law_pen", "_law_room", "_law_many", "_law_kinds"] (spNear K) := by
  refine F.ok scNear (fun vs H Q E h => ?_) (fun cdv A outer s H vs Q E hr h => ?_)
  · obtain ⟨p, r, sc, ns, n, asks, many, kinds, rfl, _⟩ := h
    rfl
  · obtain ⟨p, r, sc, ns, n, asks, many, kinds, rfl, PN, ⟨cas, hl, hR, hC⟩, a4, m1, m24, k0, k8, hn, k⟩ := h
    refine ⟨_, pss_cons (ps_set (i := 4) scNear.nd rfl (.inl rfl) (pe_lst pa_nil))
      (pss_cons (ps_for PassesOwn.never rfl (pi_tup (pv 1)) (pg_name (i := 5) scNear.nd rfl (.inl rfl))
        (pss_cons (ps_set (i := 6) scNear.nd rfl (.inl rfl) (pe_call G hr (by rfl) mT kT bT .nil pass0 (pa_cons (pv 0) (pa_cons pe_int pa_nil))))
        (pss_cons (ps_asg (pv 5) (pg_tup rfl (pgs_cons (pg_name (i := 7) scNear.nd rfl (.inl rfl)) (pgs_cons (pg_name (i := 8) scNear.nd rfl (.inl rfl)) pgs_nil))))
        (C8.pss_cut (ps_if (pt_cmpR op_eq (pv 6) pe_int (nomark _)) (pss_one (ps_set (i := 7) scNear.nd rfl (.inl rfl) pe_non)) pss_nil)
        (C8.pss_cut (ps_if (pt_cmpR op_eq (pv 6) pe_int (nomark _)) (pss_one (ps_set (i := 8) scNear.nd rfl (.inl rfl) pe_non)) pss_nil)
        (C8.pss_cut (ps_if (pt_cmpR op_eq (pv 6) pe_int (nomark _)) (pss_one (ps_set (i := 7) scNear.nd rfl (.inl rfl) (pe_call G hr (by rfl) mT kT bT .nil pass0 (pa_cons (pv 0) (pa_cons (pv 2) pa_nil))))) pss_nil)
        (C8.pss_cut (ps_if (pt_cmpR op_eq (pv 6) pe_int (nomark _)) (pss_one (ps_set (i := 8) scNear.nd rfl (.inl rfl) (pe_call G hr (by rfl) mT kT bT .nil pass0 (pa_cons (pv 0) (pa_cons (pv 3) pa_nil))))) pss_nil)
        (pss_one (ps_expr (pe_bm PySem.F.plainAttrs_list PySem.F.slot_list_append PySem.F.type_list_append mt_append (pv 4) (pa_cons (pe_tup (pa_cons (pv 7) (pa_cons (pv 8) pa_nil))) pa_nil)))))))))))
      (pss_one (ps_ret (pe_callTy call_tuple_of (by rfl) mt (by decide +kernel) (pa_cons (pv 4) pa_nil))))), ?_⟩
    -- cells = []
    refine ⟨Nat.zero_le _, fun l hl0 => ?_⟩
    have s0 : Same H (upd H l (.lst [])) := same_new hl0
    obtain ⟨dp, hp⟩ := PN.st
    have lp : l ≠ p := fun e => by
      rw [e, hp] at hl0
      cases hl0
    -- for cell in room
    refine ⟨.ref r, rfl, r, rfl, ⟨_, .of (s0 _ _ hR)⟩, for_tup (K := K) (a := r) (xs := cas.map V.ref) (fun i σ' H' => ∃ (done : List Addr) (n1 : Nat) (y5 y6 y7 y8 : Option V),
        σ' = [some (.ref p), some (.ref r), some (.int (many : Nat)), some (.int kinds), some (.ref l), y5, y6, y7, y8] ∧ done.length = i ∧ H' l = some (.lst (done.map V.ref)) ∧ (∀ c, c ∈ done → CellOk many H' c) ∧
        n1 ≤ n + 2 * i ∧ Keep p H H' ∧ Pen K p sc ns n1 H')
      ⟨[], n, none, none, none, none, rfl, rfl, upd_same, fun c hc => absurd hc List.not_mem_nil, by omega, .of s0, PN.same s0⟩
      (fun i σ' H' _ ⟨_, _, _, _, _, _, _, _, _, _, _, K1, _⟩ => .of (PN.tk K1 _ _ hR)) ?_ ?_⟩
    · rintro i x σ' H1 hx ⟨done, n1, y5, y6, y7, y8, rfl, hd, hL, hD, hn1, K1, P1⟩
      rw [List.getElem?_map] at hx
      obtain ⟨c, hc, rfl⟩ := Option.map_eq_some_iff.mp hx
      have hi : i < cas.length := (List.getElem?_eq_some_iff.mp hc).1
      have C1 : CellOk many H1 c := (hC c (List.mem_of_getElem? hc)).tk (PN.tk K1)
      -- way = take(pen, 8)
      refine ⟨.ref p, rfl, p, sc, ns, n1, 8, rfl, P1, by decide, by decide, by omega, fun d n2 H2 d0 d1 hn2 K2 P2 => ?_⟩
      obtain ⟨g, t, hc2, hg⟩ := C1.tk (P1.tk K2)
      have hL2 : H2 l = some (.lst (done.map V.ref)) := K2 _ _ lp hL
      -- goes, tells = cell
      refine ⟨.ref c, rfl, c, _, rfl, .of hc2, rfl, _, _, rfl, _, _, rfl, rfl, ?_⟩
      -- if way == 0: goes = None
      refine ⟨fun σ' H' => (∃ g : Option Nat, σ' = [some (.ref p), some (.ref r), some (.int (many : Nat)), some (.int kinds), some (.ref l), some (.ref c), some (.int d), some (vG g), some (vS t)] ∧ ∀ x, g = some x → x < many) ∧ H' = H2,
        ⟨.int d, rfl, rfl, _, rfl, ite2 (fun _ => ⟨⟨none, rfl, fun x hx => (nomatch hx)⟩, rfl⟩) (fun _ => ⟨⟨g, rfl, hg⟩, rfl⟩)⟩, ?_⟩
      rintro _ H2 ⟨⟨g1, rfl, hg1⟩, rfl⟩
      -- if way == 1: tells = None
      refine ⟨fun σ' H' => (∃ t : Option Int, σ' = [some (.ref p), some (.ref r), some (.int (many : Nat)), some (.int kinds), some (.ref l), some (.ref c), some (.int d), some (vG g1), some (vS t)]) ∧ H' = H2,
        ⟨.int d, rfl, rfl, _, rfl, ite2 (fun _ => ⟨⟨none, rfl⟩, rfl⟩) (fun _ => ⟨⟨t, rfl⟩, rfl⟩)⟩, ?_⟩
      rintro _ H2 ⟨⟨t1, rfl⟩, rfl⟩
      -- if way == 2: goes = take(pen, many)
      refine ⟨fun σ' H' => ∃ (g : Option Nat) (n3 : Nat), σ' = [some (.ref p), some (.ref r), some (.int (many : Nat)), some (.int kinds), some (.ref l), some (.ref c), some (.int d), some (vG g), some (vS t1)] ∧ (∀ x, g = some x → x < many) ∧
          Keep p H2 H' ∧ Pen K p sc ns n3 H' ∧ (n3 ≤ n1 + 1 ∨ d = 2 ∧ n3 ≤ n1 + 2),
        ⟨.int d, rfl, rfl, _, rfl, ite2 (fun w2 => ?_) (fun _ => ⟨g1, n2, rfl, hg1, .refl _ _, P2, .inl hn2⟩)⟩, ?_⟩
      · have d2 : d = 2 := V.int.inj (of_decide_eq_true w2)
        refine ⟨.ref p, rfl, .int (many : Nat), rfl, p, sc, ns, n2, _, rfl, P2, by omega, by omega, by omega, fun e n3 H3 e0 e1 hn3 K3 P3 => ?_⟩
        obtain ⟨g, eg, hg⟩ := vG_int e0 e1
        exact ⟨some g, n3, by rw [eg]; rfl, fun x hx => Option.some.inj hx ▸ hg, K3, P3, .inr ⟨d2, by omega⟩⟩
      rintro _ H3 ⟨g2, n3, rfl, hg2, K3, P3, hn3⟩
      -- if way == 3: tells = take(pen, kinds)
      refine ⟨fun σ' H' => ∃ (t : Option Int) (n4 : Nat), σ' = [some (.ref p), some (.ref r), some (.int (many : Nat)), some (.int kinds), some (.ref l), some (.ref c), some (.int d), some (vG g2), some (vS t)] ∧
          Keep p H2 H' ∧ Pen K p sc ns n4 H' ∧ n4 ≤ n1 + 2,
        ⟨.int d, rfl, rfl, _, rfl, ite2 (fun w3 => ?_) (fun _ => ⟨t1, n3, rfl, K3, P3, by omega⟩)⟩, ?_⟩
      · have d3 : d = 3 := V.int.inj (of_decide_eq_true w3)
        refine ⟨.ref p, rfl, .int kinds, rfl, p, sc, ns, n3, _, rfl, P3, by omega, by omega, by omega, fun e n4 H4 e0 e1 hn4 K4 P4 => ?_⟩
        exact ⟨some e, n4, rfl, K3.trans K4, P4, by omega⟩
      rintro _ H4 ⟨t2, n4, rfl, K4, P4, hn4⟩
      -- cells.append((goes, tells))
      have hL4 : H4 l = some (.lst (done.map V.ref)) := K4 _ _ lp hL2
      refine ⟨.ref l, rfl, .inl ⟨rfl, _, .of hL4⟩, vG g2, rfl, vS t2, rfl, (by show 2 ≤ sizeLine; decide), fun q hq => ?_⟩
      have s5 : Same H4 (upd H4 q (.tup [vG g2, vS t2])) := same_new hq
      have hL5 := s5 _ _ hL4
      refine ⟨l, _, .ref q, rfl, rfl, hL5, (by rw [List.length_map]; exact small1000 (by omega)), ?_⟩
      have t6 : TupKeep (upd H4 q (.tup [vG g2, vS t2])) (upd (upd H4 q (.tup [vG g2, vS t2])) l (.lst (done.map V.ref ++ [.ref q]))) := tk_lst hL5
      have ok6 : CellOk many (upd H4 q (.tup [vG g2, vS t2])) q := ⟨g2, t2, upd_same, hg2⟩
      obtain ⟨d5, hp5⟩ := (P4.same s5).st
      have K6 : Keep p H (upd (upd H4 q (.tup [vG g2, vS t2])) l (.lst (done.map V.ref ++ [.ref q]))) := fun b o nb e => by
        rw [upd_ne (ne_of_none e hl0)]
        exact s5 _ _ (K4 _ _ nb (K2 _ _ nb (K1 _ _ nb e)))
      refine ⟨done ++ [q], n4, _, _, _, _, rfl, by rw [List.length_append, List.length_singleton, hd], by rw [upd_same, List.map_append]; rfl, fun c' hc' => ?_, by omega, ?_, ?_⟩
      · rcases List.mem_append.mp hc' with h | h
        · exact ((((hD c' h).tk (P1.tk K2)).tk (P2.tk K4)).tk (tk_same s5)).tk t6
        · rw [List.mem_singleton.mp h]
          exact ok6.tk t6
      · exact K6
      · exact PN.move K6 (by rw [upd_ne lp.symm]; exact hp5)
    · rintro σ' H1 ⟨done, n1, y5, y6, y7, y8, rfl, hd, hL, hD, hn1, K1, P1⟩
      rw [List.length_map] at hd
      refine ⟨.ref l, rfl, l, _, rfl, .inl ⟨.of hL, fun q hq => ?_⟩⟩
      exact k q n1 _ (by rw [List.length_map] at hn1; omega) (K1.trans (.new hq)) (P1.same (same_new hq)) ⟨done, by omega, upd_same, fun c hc => (hD c hc).tk (tk_new hq)⟩
end
end K05

namespace K05
open PySem PySem.Spec PyProof.Rows L2
/-! ## _law_machine: some machine, at most 500 takes -/
theorem scMach : FnScope ["_law_pen", "_law_most", "_law_copies", "_law_share", "_law_kinds", "_law_asks", "_law_many", "_law_rooms", "_law_k", "_law_ask"] ["_law_pen", "_law_most"] (defScope sMach) := ⟨rfl, rfl, rfl, by decide +kernel, rfl, by decide +kernel, by decide +kernel⟩
def spMach (K : PySem.W.Frag) : Sp := fun vs H Q _ => ∃ (p sc : Addr) (ns : List Int) (n : Nat), vs = [.ref p, .int 24] ∧ Pen K p sc ns n H ∧ n + 500 < 1000000 ∧
  ∀ (m asks many : Nat) (cell : CellF) (n' : Nat) (H' : Hp), n' ≤ n + 500 → Keep p H H' → Pen K p sc ns n' H' → Mach H' m asks many cell → Q (.ref m) H'
theorem shares_at (z : Int) (h0 : 0 ≤ z) (h4 : z < 4) : ∃ q : Int, atI [V.int 0, V.int 1, V.int 2, V.int 5] z = some (.int q) := by
  obtain ⟨j, rfl⟩ : ∃ j : Nat, z = (j : Int) := ⟨z.toNat, by omega⟩
  have hj : j < 4 := by omega
  match j, hj with
  | 0, _ => exact ⟨0, atI_nat (j := 0) rfl⟩
  | 1, _ => exact ⟨1, atI_nat (j := 1) rfl⟩
  | 2, _ => exact ⟨2, atI_nat (j := 2) rfl⟩
  | 3, _ => exact ⟨5, atI_nat (j := 3) rfl⟩
  | j + 4, h => omega
theorem kinds_at (z : Int) (h0 : 0 ≤ z) (h4 : z < 4) : ∃ q : Int, atI [V.int 1, V.int 2, V.int 3, V.int 8] z = some (.int q) ∧ 0 < q ∧ q ≤ 8 := by
  obtain ⟨j, rfl⟩ : ∃ j : Nat, z = (j : Int) := ⟨z.toNat, by omega⟩
  have hj : j < 4 := by omega
  match j, hj with
  | 0, _ => exact ⟨1, atI_nat (j := 0) rfl, by decide, by decide⟩
  | 1, _ => exact ⟨2, atI_nat (j := 1) rfl, by decide, by decide⟩
  | 2, _ => exact ⟨3, atI_nat (j := 2) rfl, by decide, by decide⟩
  | 3, _ => exact ⟨8, atI_nat (j := 3) rfl, by decide, by decide⟩
  | j + 4, h => omega
section
variable {P : Program} {w : World} {K : PySem.W.Frag} {mg : Str → Option Value} {base : Heap}
theorem ok_mach {f fT fC fN : Addr} {fd fdT fdC fdN : FuncData} (F : Fun K "_law_machine" "_law_machine" sMach f fd) (mt : mg "tuple" = none) (mr : mg "range" = none)
    (GT : FnOk P w K mg base CX0 1 fT fdT ["_law_pen", "_law_many"] (spTake K)) (bT : Binds K fdT ["_law_pen", "_law_many"] []) (kT : PySem.W.keepIn K (.ref fT) = true) (mT : mg "_law_take" = some (.ref fT))
    (GC : FnOk P w K mg base CX0 2 fC fdC ["_law_pen", "_law_many", "_law_share", "_law_kinds"] (spCell K)) (bC : Binds K fdC ["_law_pen", "_law_many", "_law_share", "_law_kinds"] []) (kC : PySem.W.keepIn K (.ref fC) = true) (mC : mg "_law_cell" = some (.ref fC))
    (GN : FnOk P w K mg base CX0 2 fN fdN ["_law_pen", "_law_room", "_law_many", "_law_kinds"] (spNear K)) (bN : Binds K fdN ["_law_pen", "_law_room", "_law_many", "_law_kinds"] []) (kN : PySem.W.keepIn K (.ref fN) = true) (mN : mg "_law_near" = some (.ref fN)) :
    FnOk P w K mg base CX0 3 f fd ["_law_pen", "_law_most"] (spMach K) := by
  refine F.ok scMach (fun vs H Q E h => ?_) (fun cdv A outer s H vs Q E hr h => ?_)
  · obtain ⟨p, sc, ns, n, rfl, _⟩ := h
    rfl
  · obtain ⟨p, sc, ns, n, rfl, PN, hn, k⟩ := h
    have hr1 : Room 1 _ := hr.mono (by decide)
    refine ⟨_, pss_cons (ps_set (i := 2) scMach.nd rfl (.inl rfl) (pe_call GT hr1 (by rfl) mT kT bT .nil pass0 (pa_cons (pv 0) (pa_cons pe_int pa_nil))))
      (pss_cons (ps_set (i := 3) scMach.nd rfl (.inr rfl) (pe_ix ix_list (pe_lst (pa_cons pe_int (pa_cons pe_int (pa_cons pe_int (pa_cons pe_int pa_nil))))) (pe_call GT hr1 (by rfl) mT kT bT .nil pass0 (pa_cons (pv 0) (pa_cons pe_int pa_nil))) (fun _ _ => rfl)))
      (pss_cons (ps_set (i := 4) scMach.nd rfl (.inr rfl) (pe_ix ix_list (pe_lst (pa_cons pe_int (pa_cons pe_int (pa_cons pe_int (pa_cons pe_int pa_nil))))) (pe_call GT hr1 (by rfl) mT kT bT .nil pass0 (pa_cons (pv 0) (pa_cons pe_int pa_nil))) (fun _ _ => rfl)))
      (pss_cons (ps_set (i := 5) scMach.nd rfl (.inl rfl) (pe_op op_add pe_int (pe_call GT hr1 (by rfl) mT kT bT .nil pass0 (pa_cons (pv 0) (pa_cons pe_int pa_nil)))))
      (pss_cons (ps_set (i := 6) scMach.nd rfl (.inr rfl) (pe_op op_add pe_int (pe_call GT hr1 (by rfl) mT kT bT .nil pass0 (pa_cons (pv 0) (pa_cons (pv 1) pa_nil)))))
      (C8.pss_cut (ps_set (i := 7) scMach.nd rfl (.inl rfl) (pe_lst pa_nil))
      (pss_cons (ps_for PassesOwn.never rfl (pi_range1 (by rfl) mr (pa_cons (pv 6) pa_nil)) (pg_name (i := 8) scMach.nd rfl (.inl rfl))
        (pss_one (ps_if (pt_mid (PW.pt (pw_and (pt_cmpR op_gt (pv 8) pe_int (nomark _)) (pw_and (pt_cmpR op_gt (pv 2) pe_int (nomark _))
            (pw_and1 (pt_cmpR op_gt (pe_call GT hr1 (by rfl) mT kT bT .nil pass0 (pa_cons (pv 0) (pa_cons pe_int pa_nil))) pe_int (nomark _)))))))
          (pss_one (ps_expr (pe_bm PySem.F.plainAttrs_list PySem.F.slot_list_append PySem.F.type_list_append mt_append (pv 7) (pa_cons
            (pe_call GN hr (by rfl) mN kN bN .nil pass0 (pa_cons (pv 0) (pa_cons (pe_ix ix_list (pv 7) (pe_call GT hr1 (by rfl) mT kT bT .nil pass0 (pa_cons (pv 0) (pa_cons (pv 8) pa_nil))) (fun _ _ => rfl)) (pa_cons (pv 6) (pa_cons (pv 4) pa_nil))))) pa_nil))))
          (pss_one (ps_expr (pe_bm PySem.F.plainAttrs_list PySem.F.slot_list_append PySem.F.type_list_append mt_append (pv 7) (pa_cons
            (pe_callTy call_tuple_of (by rfl) mt (by decide +kernel) (pa_cons
              (pe_lc (own := [("_law_ask", 9)]) (g := gName 9) (tt := tYes) rfl scMach.nd (pi_range1 (by rfl) mr (pa_cons (pv 5) pa_nil))
                (blkOk_by (own := [("_law_ask", 9)]) (N := ["_law_pen", "_law_most", "_law_copies", "_law_share", "_law_kinds", "_law_asks", "_law_many", "_law_rooms", "_law_k", "_law_ask"]) (sc := defScope sMach) (by decide +kernel))
                (fun _ _ _ _ _ => pg_name (i := 9) scMach.nd rfl (Or.inl rfl)) (fun _ _ _ _ _ => pts_nil)
                (fun _ _ _ _ _ => pe_call GC hr (by rfl) mC kC bC .nil pass0 (pa_cons (pv 0) (pa_cons (pv 6) (pa_cons (pv 3) (pa_cons (pv 4) pa_nil)))))) pa_nil)) pa_nil)))))))
      (pss_one (ps_ret (pe_tup (pa_cons (pv 5) (pa_cons (pe_callTy call_tuple_of (by rfl) mt (by decide +kernel) (pa_cons (pv 7) pa_nil)) pa_nil))))))))))), ?_⟩
    -- copies, share, kinds, asks, many
    refine ⟨.ref p, rfl, p, sc, ns, n, 3, rfl, PN, by decide, by decide, by omega, fun cp n1 H1 _ _ hn1 K1 P1 => ?_⟩
    refine ⟨(by show 4 ≤ sizeLine; decide), fun l3 hl3 => ?_⟩
    refine ⟨.ref p, rfl, p, sc, ns, n1, 4, rfl, P1.same (same_new hl3), by decide, by decide, by omega, fun d3 n2 H2 d30 d31 hn2 K2 P2 => ?_⟩
    obtain ⟨sh, hsh⟩ := shares_at d3 d30 d31
    refine ⟨l3, _, _, .int sh, rfl, rfl, .of (K2 _ _ (P1.fresh hl3) upd_same), hsh, ?_⟩
    refine ⟨(by show 4 ≤ sizeLine; decide), fun l4 hl4 => ?_⟩
    refine ⟨.ref p, rfl, p, sc, ns, n2, 4, rfl, P2.same (same_new hl4), by decide, by decide, by omega, fun d4 n3 H3 d40 d41 hn3 K3 P3 => ?_⟩
    obtain ⟨kd, hkd, kd0, kd8⟩ := kinds_at d4 d40 d41
    refine ⟨l4, _, _, .int kd, rfl, rfl, .of (K3 _ _ (P2.fresh hl4) upd_same), hkd, ?_⟩
    refine ⟨.ref p, rfl, p, sc, ns, n3, 4, rfl, P3, by decide, by decide, by omega, fun d5 n4 H4 d50 d51 hn4 K4 P4 => ⟨1, d5, rfl, rfl, ?_⟩⟩
    refine ⟨.ref p, rfl, .int 24, rfl, p, sc, ns, n4, 24, rfl, P4, by decide, by decide, by omega, fun d6 n5 H5 d60 d61 hn5 K5 P5 => ⟨1, d6, rfl, rfl, ?_⟩⟩
    obtain ⟨asks, ea⟩ : ∃ asks : Nat, (1 : Int) + d5 = (asks : Int) := ⟨(1 + d5).toNat, by omega⟩
    obtain ⟨many, em⟩ : ∃ many : Nat, (1 : Int) + d6 = (many : Int) := ⟨(1 + d6).toNat, by omega⟩
    have a1 : 1 ≤ asks := by omega
    have a4 : asks ≤ 4 := by omega
    have m1 : 1 ≤ many := by omega
    have m24 : many ≤ 24 := by omega
    have K15 : Keep p H H5 := ((((K1.trans (.new hl3)).trans K2).trans ((Keep.new hl4).trans K3)).trans K4).trans K5
    -- rooms = []
    refine ⟨fun σ' H' => ∃ l : Addr, σ' = [some (.ref p), some (.int 24), some (.int cp), some (.int sh), some (.int kd), some (.int (asks : Nat)), some (.int (many : Nat)), some (.ref l), none, none] ∧
        H' l = some (.lst []) ∧ H l = none ∧ Keep p H H' ∧ Pen K p sc ns n5 H',
      ⟨Nat.zero_le _, fun l hl => ⟨l, by rw [← ea, ← em]; rfl, upd_same, K15.free (P5.fresh hl) hl, K15.trans (.new hl), P5.same (same_new hl)⟩⟩, ?_⟩
    rintro _ H6 ⟨l, rfl, hL0, hl0, K6, P6⟩
    have lp : l ≠ p := PN.fresh hl0
    -- for k in range(many)
    refine ⟨.int (many : Nat), rfl, (many : Nat), rfl, by omega, by omega, for_range (n := ((many : Nat) : Int).toNat) (fun i σ' H' => ∃ (ras : List Addr) (n1 : Nat) (y8 y9 : Option V),
        σ' = [some (.ref p), some (.int 24), some (.int cp), some (.int sh), some (.int kd), some (.int (asks : Nat)), some (.int (many : Nat)), some (.ref l), y8, y9] ∧ ras.length = i ∧ H' l = some (.lst (ras.map V.ref)) ∧
        (∀ r, r ∈ ras → RoomOk asks many H' r) ∧ n1 ≤ n + 5 + 18 * i ∧ Keep p H H' ∧ Pen K p sc ns n1 H')
      ⟨[], n5, none, none, rfl, rfl, hL0, fun r hr => absurd hr List.not_mem_nil, by omega, K6, P6⟩ ?_ ?_⟩
    · rintro i σ' G1 hi ⟨ras, u1, y8, y9, rfl, hlen, hL, hR, hu1, J1, R1⟩
      have hi24 : i < many := by omega
      -- if k > 0 and copies > 0 and take(pen, 3) > 0
      refine ⟨fun b H' => (b = true → 0 < i) ∧ ∃ u2 : Nat, u2 ≤ u1 + 1 ∧ Keep p G1 H' ∧ Pen K p sc ns u2 H',
        ⟨.int (0 + (i : Nat)), rfl, _, _, rfl, rfl, _, rfl, ite2 (fun c => ?_) (fun c => ⟨fun z => (nomatch z), u1, by omega, .refl _ _, R1⟩)⟩, ?_⟩
      · have c0 : (0 : Int) < 0 + (i : Int) := of_decide_eq_true c
        have c1 : 0 < i := by omega
        refine ⟨.int cp, rfl, _, _, rfl, rfl, _, rfl, ite2 (fun c2 => ?_) (fun c2 => ⟨fun z => (nomatch z), u1, by omega, .refl _ _, R1⟩)⟩
        refine ⟨.ref p, rfl, p, sc, ns, u1, 3, rfl, R1, by decide, by decide, by omega, fun d u2 G2 _ _ hu2 J2 R2 => ⟨_, _, rfl, rfl, _, rfl, fun _ => c1, u2, hu2, J2, R2⟩⟩
      rintro b G2 ⟨hb, u2, hu2, J2, R2⟩
      have hL2 := J2 _ _ lp hL
      have hR2 : ∀ r, r ∈ ras → RoomOk asks many G2 r := fun r hr => (hR r hr).tk (R1.tk J2)
      refine ite2 (fun hbt => ?_) (fun _ => ?_)
      · -- rooms.append(near(pen, rooms[take(pen, k)], many, kinds))
        have i0 := hb hbt
        refine ⟨.ref l, rfl, .inl ⟨rfl, _, .of hL2⟩, .ref p, rfl, .ref l, rfl, .ref p, rfl, .int (0 + (i : Nat)), rfl, p, sc, ns, u2, _, rfl, R2, by omega, by omega, by omega, fun e u3 G3 e0 e1 hu3 J3 R3 => ?_⟩
        obtain ⟨j, ej⟩ : ∃ j : Nat, e = (j : Int) := ⟨e.toNat, by omega⟩
        have hj : j < ras.length := by omega
        have hL3 := J3 _ _ lp hL2
        refine ⟨l, _, e, .ref ras[j], rfl, rfl, .of hL3, at_of ej (by rw [List.getElem?_map, List.getElem?_eq_getElem hj]; rfl), .int (many : Nat), rfl, .int kd, rfl, ?_⟩
        refine ⟨p, ras[j], sc, ns, u3, asks, many, kd, rfl, R3, (hR2 _ (List.getElem_mem hj)).tk (R2.tk J3), a4, m1, m24, kd0, kd8, by omega, fun r' u4 G4 hu4 J4 R4 hr' => ?_⟩
        have hL4 := J4 _ _ lp hL3
        refine ⟨l, _, .ref r', rfl, rfl, hL4, (by rw [List.length_map]; exact small1000 (by omega)), ?_⟩
        have J5 := PN.push hl0 (((J1.trans J2).trans J3).trans J4) R4 (.lst (ras.map V.ref ++ [V.ref r']))
        refine ⟨ras ++ [r'], u4, _, _, rfl, by rw [List.length_append, List.length_singleton, hlen], by rw [upd_same, List.map_append]; rfl, fun r hr => ?_, by omega, J5.1, J5.2⟩
        rcases List.mem_append.mp hr with h | h
        · exact (((hR2 r h).tk (R2.tk J3)).tk (R3.tk J4)).tk (tk_lst hL4)
        · rw [List.mem_singleton.mp h]
          exact hr'.tk (tk_lst hL4)
      · -- rooms.append(tuple([cell(pen, many, share, kinds) for ask in range(asks)]))
        refine ⟨.ref l, rfl, .inl ⟨rfl, _, .of hL2⟩, .int (asks : Nat), rfl, _, rfl, by omega, by omega, fun D hD => lc_range (lo := 0) (n := ((asks : Nat) : Int).toNat) (fun j H' => ∃ (cas : List Addr) (u3 : Nat), cas.length = j ∧ H' D = some (.lst (cas.map V.ref)) ∧
            (∀ c, c ∈ cas → CellOk many H' c) ∧ u3 ≤ u2 + 4 * j ∧ Keep p G2 H' ∧ Pen K p sc ns u3 H')
          ⟨[], u2, rfl, upd_same, fun c hc => absurd hc List.not_mem_nil, by omega, .new hD, R2.same (same_new hD)⟩ ?_ ?_⟩
        · rintro j G3 hj ⟨cas, u3, hcl, hDl, hC, hu3, J3, R3⟩
          have Dp : D ≠ p := R2.fresh hD
          refine ⟨rfl, ?_⟩
          unfold tYes
          dsimp only
          rw [if_pos rfl]
          refine ⟨.ref p, rfl, .int (many : Nat), rfl, .int sh, rfl, .int kd, rfl, p, sc, ns, u3, many, sh, kd, rfl, R3, m1, m24, kd0, kd8, by omega, fun c u4 G4 hu4 J4 R4 hc => ?_⟩
          have hD4 := J4 _ _ Dp hDl
          have J5 := R2.push hD (J3.trans J4) R4 (.lst (cas.map V.ref ++ [V.ref c]))
          refine ⟨_, hD4, (by rw [List.length_map]; exact small1000 (by omega)), cas ++ [c], u4, by rw [List.length_append, List.length_singleton, hcl], by rw [upd_same, List.map_append]; rfl, fun c' hc' => ?_, by omega, J5.1, J5.2⟩
          rcases List.mem_append.mp hc' with h | h
          · exact ((hC c' h).tk (R3.tk J4)).tk (tk_lst hD4)
          · rw [List.mem_singleton.mp h]
            exact hc.tk (tk_lst hD4)
        · rintro G3 ⟨cas, u3, hcl, hDl, hC, hu3, J3, R3⟩
          refine ⟨D, _, rfl, .inl ⟨.of hDl, fun t ht => ?_⟩⟩
          have s4 : Same G3 (upd G3 t (.tup (cas.map V.ref))) := same_new ht
          have hL4 := s4 _ _ (J3 _ _ lp hL2)
          refine ⟨l, _, .ref t, rfl, rfl, hL4, (by rw [List.length_map]; exact small1000 (by omega)), ?_⟩
          have J5 := PN.push hl0 (((J1.trans J2).trans J3).trans (.of s4)) (R3.same s4) (.lst (ras.map V.ref ++ [V.ref t]))
          refine ⟨ras ++ [t], u3, _, _, rfl, by rw [List.length_append, List.length_singleton, hlen], by rw [upd_same, List.map_append]; rfl, fun r hr => ?_, by omega, J5.1, J5.2⟩
          rcases List.mem_append.mp hr with h | h
          · exact (((hR2 r h).tk (R2.tk J3)).tk (tk_same s4)).tk (tk_lst hL4)
          · rw [List.mem_singleton.mp h]
            exact RoomOk.tk ⟨cas, by omega, upd_same, fun c hc => (hC c hc).tk (tk_same s4)⟩ (tk_lst hL4)
    · rintro σ' G1 ⟨ras, u1, y8, y9, rfl, hlen, hL, hR, hu1, J1, R1⟩
      -- return (asks, tuple(rooms))
      refine ⟨.int (asks : Nat), rfl, .ref l, rfl, l, _, rfl, .inl ⟨.of hL, fun rs hrs => ⟨(by show 2 ≤ sizeLine; decide), fun m hm => ?_⟩⟩⟩
      have s2 : Same G1 (upd G1 rs (.tup (ras.map V.ref))) := same_new hrs
      have s3 : Same (upd G1 rs (.tup (ras.map V.ref))) (upd (upd G1 rs (.tup (ras.map V.ref))) m (.tup [V.int (asks : Nat), V.ref rs])) := same_new hm
      obtain ⟨cell, M⟩ := mach_mk (H := upd (upd G1 rs (.tup (ras.map V.ref))) m (.tup [V.int (asks : Nat), V.ref rs])) (m := m) (rs := rs) (ras := ras) a1 a4 m1 m24 (by omega) upd_same (s3 _ _ upd_same) (fun r hr => ((hR r hr).tk (tk_same s2)).tk (tk_same s3))
      exact k m asks many cell u1 _ (by omega) (J1.trans (.of (s2.trans s3))) (R1.same (s2.trans s3)) M
end
end K05

namespace K05
open PySem PySem.Spec PyProof.Rows L2
/-! ## _law_row: some row of at most sixty asks -/
theorem scRow : FnScope ["_law_pen", "_law_asks", "_law_long", "_law_alike", "_law_ask", "_law_row_here", "_law_k"] ["_law_pen", "_law_asks"] (defScope sRow) := ⟨rfl, rfl, rfl, by decide +kernel, rfl, by decide +kernel, by decide +kernel⟩
def spRow (K : PySem.W.Frag) : Sp := fun vs H Q _ => ∃ (p sc : Addr) (ns : List Int) (n asks : Nat), vs = [.ref p, .int (asks : Nat)] ∧ Pen K p sc ns n H ∧ 1 ≤ asks ∧ asks ≤ 4 ∧ n + 70 < 1000000 ∧
  ∀ (t : Addr) (row : List Nat) (n' : Nat) (H' : Hp), row.length ≤ 60 → AsksOk asks row → n' ≤ n + 70 → Keep p H H' → Pen K p sc ns n' H' → RowAt H' t row → Q (.ref t) H'
theorem longs_at (z : Int) (h0 : 0 ≤ z) (h6 : z < 6) : ∃ q : Int, atI [V.int 0, V.int 1, V.int 3, V.int 9, V.int 60, V.int 59] z = some (.int q) ∧ 0 ≤ q ∧ q ≤ 60 := by
  obtain ⟨j, rfl⟩ : ∃ j : Nat, z = (j : Int) := ⟨z.toNat, by omega⟩
  have hj : j < 6 := by omega
  match j, hj with
  | 0, _ => exact ⟨0, atI_nat (j := 0) rfl, by decide, by decide⟩
  | 1, _ => exact ⟨1, atI_nat (j := 1) rfl, by decide, by decide⟩
  | 2, _ => exact ⟨3, atI_nat (j := 2) rfl, by decide, by decide⟩
  | 3, _ => exact ⟨9, atI_nat (j := 3) rfl, by decide, by decide⟩
  | 4, _ => exact ⟨60, atI_nat (j := 4) rfl, by decide, by decide⟩
  | 5, _ => exact ⟨59, atI_nat (j := 5) rfl, by decide, by decide⟩
  | j + 6, h => omega
theorem pick_at (b : Bool) (x y : Nat) : ∃ z : Nat, atI [V.int (x : Nat), V.int (y : Nat)] (if b = true then 1 else 0) = some (.int (z : Nat)) ∧ (z = x ∨ z = y) := by
  cases b with
  | true => exact ⟨y, atI_nat (j := 1) rfl, .inr rfl⟩
  | false => exact ⟨x, atI_nat (j := 0) rfl, .inl rfl⟩
section
variable {P : Program} {w : World} {K : PySem.W.Frag} {mg : Str → Option Value} {base : Heap}
theorem ok_row {f fT : Addr} {fd fdT : FuncData} (F : Fun K "_law_row" "_law_row" sRow f fd) (mt : mg "tuple" = none) (mr : mg "range" = none) (mi : mg "int" = none)
    (GT : FnOk P w K mg base CX0 1 fT fdT ["_law_pen", "_law_many"] (spTake K)) (bT : Binds K fdT ["_law_pen", "_law_many"] []) (kT : PySem.W.keepIn K (.ref fT) = true) (mT : mg "_law_take" = some (.ref fT)) :
    FnOk P w K mg base CX0 2 f fd ["_law_pen", "_law_asks"] (spRow K) := by
  refine F.ok scRow (fun vs H Q E h => ?_) (fun cdv A outer s H vs Q E hr h => ?_)
  · obtain ⟨p, sc, ns, n, asks, rfl, _⟩ := h
    rfl
  · obtain ⟨p, sc, ns, n, asks, rfl, PN, a1, a4, hn, k⟩ := h
    refine ⟨_, pss_cons (ps_set (i := 2) scRow.nd rfl (.inl rfl) (pe_ix ix_list (pe_lst (pa_cons pe_int (pa_cons pe_int (pa_cons pe_int (pa_cons pe_int (pa_cons pe_int (pa_cons pe_int pa_nil))))))) (pe_call GT hr (by rfl) mT kT bT .nil pass0 (pa_cons (pv 0) (pa_cons pe_int pa_nil))) (fun _ _ => rfl)))
      (pss_cons (ps_set (i := 3) scRow.nd rfl (.inl rfl) (pe_call GT hr (by rfl) mT kT bT .nil pass0 (pa_cons (pv 0) (pa_cons pe_int pa_nil))))
      (pss_cons (ps_set (i := 4) scRow.nd rfl (.inl rfl) (pe_call GT hr (by rfl) mT kT bT .nil pass0 (pa_cons (pv 0) (pa_cons (pv 1) pa_nil))))
      (C8.pss_cut (ps_set (i := 5) scRow.nd rfl (.inl rfl) (pe_lst pa_nil))
      (pss_cons (ps_for PassesOwn.never rfl (pi_range1 (by rfl) mr (pa_cons (pe_call GT hr (by rfl) mT kT bT .nil pass0 (pa_cons (pv 0) (pa_cons (pe_op op_add (pv 2) pe_int) pa_nil))) pa_nil)) (pg_name (i := 6) scRow.nd rfl (.inl rfl))
        (pss_one (ps_expr (pe_bm PySem.F.plainAttrs_list PySem.F.slot_list_append PySem.F.type_list_append mt_append (pv 5) (pa_cons
          (pe_ix ix_list (pe_lst (pa_cons (pe_call GT hr (by rfl) mT kT bT .nil pass0 (pa_cons (pv 0) (pa_cons (pv 1) pa_nil))) (pa_cons (pv 4) pa_nil)))
            (pe_callTy call_int1 (by rfl) mi (by decide +kernel) (pa_cons (pe_cmpR op_eq (pv 3) pe_int (nomark _)) pa_nil)) (fun _ _ => rfl)) pa_nil)))))
      (pss_one (ps_ret (pe_callTy call_tuple_of (by rfl) mt (by decide +kernel) (pa_cons (pv 5) pa_nil)))))))), ?_⟩
    -- long, alike, ask
    refine ⟨(by show 6 ≤ sizeLine; decide), fun l2 hl2 => ?_⟩
    refine ⟨.ref p, rfl, p, sc, ns, n, 6, rfl, PN.same (same_new hl2), by decide, by decide, by omega, fun d2 n1 H1 d20 d21 hn1 K1 P1 => ?_⟩
    obtain ⟨lg, hlg, lg0, lg1⟩ := longs_at d2 d20 d21
    refine ⟨l2, _, _, .int lg, rfl, rfl, .of (K1 _ _ (PN.fresh hl2) upd_same), hlg, ?_⟩
    refine ⟨.ref p, rfl, p, sc, ns, n1, 4, rfl, P1, by decide, by decide, by omega, fun al n2 H2 _ _ hn2 K2 P2 => ?_⟩
    refine ⟨.ref p, rfl, .int (asks : Nat), rfl, p, sc, ns, n2, _, rfl, P2, by omega, by omega, by omega, fun d4 n3 H3 d40 d41 hn3 K3 P3 => ?_⟩
    obtain ⟨ak, rfl⟩ : ∃ ak : Nat, d4 = (ak : Int) := ⟨d4.toNat, by omega⟩
    have K13 : Keep p H H3 := (((Keep.new hl2).trans K1).trans K2).trans K3
    -- row = []
    refine ⟨fun σ' H' => ∃ l : Addr, σ' = [some (.ref p), some (.int (asks : Nat)), some (.int lg), some (.int al), some (.int (ak : Nat)), some (.ref l), none] ∧ H' l = some (.lst []) ∧ H l = none ∧ Keep p H H' ∧ Pen K p sc ns n3 H',
      ⟨Nat.zero_le _, fun l hl => ⟨l, rfl, upd_same, K13.free (P3.fresh hl) hl, K13.trans (.new hl), P3.same (same_new hl)⟩⟩, ?_⟩
    rintro _ H4 ⟨l, rfl, hL0, hl0, K4, P4⟩
    have lp : l ≠ p := PN.fresh hl0
    -- for k in range(take(pen, long + 1))
    refine ⟨.ref p, rfl, .int lg, rfl, _, _, rfl, rfl, p, sc, ns, n3, lg + 1, rfl, P4, by omega, by omega, by omega, fun d5 n5 H5 d50 d51 hn5 K5 P5 => ?_⟩
    refine ⟨d5, rfl, by omega, by omega, for_range (n := d5.toNat) (fun i σ' H' => ∃ (row : List Nat) (n1 : Nat) (y6 : Option V),
        σ' = [some (.ref p), some (.int (asks : Nat)), some (.int lg), some (.int al), some (.int (ak : Nat)), some (.ref l), y6] ∧ row.length = i ∧ H' l = some (.lst (row.map fun (a : Nat) => V.int (a : Nat))) ∧ AsksOk asks row ∧
        n1 ≤ n + 5 + i ∧ Keep p H H' ∧ Pen K p sc ns n1 H')
      ⟨[], n5, none, rfl, rfl, K5 _ _ lp hL0, fun a ha => absurd ha List.not_mem_nil, by omega, K4.trans K5, P5⟩ ?_ ?_⟩
    · rintro i σ' G1 hi ⟨row, u1, y6, rfl, hlen, hL, hA, hu1, J1, R1⟩
      have hi60 : i < 60 := by omega
      refine ⟨.ref l, rfl, .inl ⟨rfl, _, .of hL⟩, .ref p, rfl, .int (asks : Nat), rfl, p, sc, ns, u1, _, rfl, R1, by omega, by omega, by omega, fun e u2 G2 e0 e1 hu2 J2 R2 => ?_⟩
      obtain ⟨x, rfl⟩ : ∃ x : Nat, e = (x : Int) := ⟨e.toNat, by omega⟩
      obtain ⟨z, hz, hzz⟩ := pick_at (decide (V.int al = V.int 0)) x ak
      refine ⟨.int (ak : Nat), rfl, (by show 2 ≤ sizeLine; decide), fun q hq => ?_⟩
      have hL2 := J2 _ _ lp hL
      have s3 : Same G2 (upd G2 q (.lst [V.int (x : Nat), V.int (ak : Nat)])) := same_new hq
      refine ⟨.int al, rfl, rfl, .inr ⟨_, rfl, q, _, _, .int (z : Nat), rfl, rfl, .of upd_same, hz, ?_⟩⟩
      refine ⟨l, _, .int (z : Nat), rfl, rfl, s3 _ _ hL2, (by rw [List.length_map]; exact small1000 (by omega)), ?_⟩
      have J5 := PN.push hl0 ((J1.trans J2).trans (.of s3)) (R2.same s3) (.lst (row.map (fun (a : Nat) => V.int (a : Nat)) ++ [V.int (z : Nat)]))
      refine ⟨row ++ [z], u2, _, rfl, by rw [List.length_append, List.length_singleton, hlen], by rw [upd_same, List.map_append]; rfl, hA.app fun a ha => ?_, by omega, J5.1, J5.2⟩
      rw [List.mem_singleton.mp ha]
      rcases hzz with h | h <;> omega
    · rintro σ' G1 ⟨row, u1, y6, rfl, hlen, hL, hA, hu1, J1, R1⟩
      refine ⟨.ref l, rfl, l, _, rfl, .inl ⟨.of hL, fun t ht => ?_⟩⟩
      exact k t row u1 _ (by omega) hA (by omega) (J1.trans (.new ht)) (R1.same (same_new ht)) upd_same
end
end K05

namespace K05
open PySem PySem.Spec PyProof.Rows L2
/-! ## run: what is said on a row, and the room come to; lets -/
theorem scRun : FnScope ["machine", "room", "row", "answers", "here", "ask", "goes", "says"] ["machine", "room", "row"] (defScope sRun) := ⟨rfl, rfl, rfl, by decide +kernel, rfl, by decide +kernel, by decide +kernel⟩
theorem scLets : FnScope ["machine", "room", "row"] ["machine", "room", "row"] (defScope sLets) := ⟨rfl, rfl, rfl, by decide +kernel, rfl, by decide +kernel, by decide +kernel⟩
def spRun : Sp := fun vs H Q _ => ∃ (m t : Addr) (r asks many : Nat) (cell : CellF) (row : List Nat), vs = [.ref m, .int (r : Nat), .ref t] ∧ Mach H m asks many cell ∧ r < many ∧ RowAt H t row ∧ AsksOk asks row ∧ row.length ≤ 1000 ∧
  ∀ (q l : Addr) (H' : Hp), Same H H' → H' q = some (.tup [.ref l, vG (going cell row (some r)).2]) → H' l = some (.lst ((going cell row (some r)).1.map vS)) → Q (.ref q) H'
def spLets : Sp := fun vs H Q _ => ∃ (m t : Addr) (r asks many : Nat) (cell : CellF) (row : List Nat), vs = [.ref m, .int (r : Nat), .ref t] ∧ Mach H m asks many cell ∧ r < many ∧ RowAt H t row ∧ AsksOk asks row ∧ row.length ≤ 1000 ∧
  ∀ (H' : Hp), Same H H' → Q (.bl (decide ((going cell row (some r)).1.length = row.length))) H'
section
variable {P : Program} {w : World} {K : PySem.W.Frag} {mg : Str → Option Value} {base : Heap}
theorem ok_run {f : Addr} {fd : FuncData} (F : Fun K "run" "run" sRun f fd) : FnOk P w K mg base CX0 1 f fd ["machine", "room", "row"] spRun := by
  refine F.ok scRun (fun vs H Q E h => ?_) (fun cdv A outer s H vs Q E hr h => ?_)
  · obtain ⟨m, t, r, asks, many, cell, row, rfl, _⟩ := h
    rfl
  · obtain ⟨m, t, r, asks, many, cell, row, rfl, M, hrm, hT, hA, hlen, k⟩ := h
    refine ⟨_, pss_cons (ps_set (i := 3) scRun.nd rfl (.inl rfl) (pe_lst pa_nil))
      (pss_cons (ps_set (i := 4) scRun.nd rfl (.inl rfl) (pv 1))
      (pss_cons (ps_for PassesOwn.never rfl (pi_tup (pv 2)) (pg_name (i := 5) scRun.nd rfl (.inl rfl))
        (pss_one (ps_if (pt_cmpR op_notN (pv 4) pe_non (nomark _))
          (pss_cons (ps_asg (pe_ix ix_tup (pe_ix ix_tup (pe_ix ix_tup (pv 0) pe_int (fun _ _ => rfl)) (pv 4) (fun _ _ => rfl)) (pv 5) (fun _ _ => rfl))
              (pg_tup rfl (pgs_cons (pg_name (i := 6) scRun.nd rfl (.inl rfl)) (pgs_cons (pg_name (i := 7) scRun.nd rfl (.inl rfl)) pgs_nil))))
          (pss_cons (ps_expr (pe_bm PySem.F.plainAttrs_list PySem.F.slot_list_append PySem.F.type_list_append mt_append (pv 3) (pa_cons (pv 7) pa_nil)))
          (pss_one (ps_set (i := 4) scRun.nd rfl (.inl rfl) (pv 6))))) pss_nil)))
      (pss_one (ps_ret (pe_tup (pa_cons (pv 3) (pa_cons (pv 4) pa_nil))))))), ?_⟩
    -- answers = []; here = room
    refine ⟨Nat.zero_le _, fun l hl => ?_⟩
    refine ⟨.int (r : Nat), rfl, ?_⟩
    have s0 : Same H (upd H l (.lst [])) := same_new hl
    -- for ask in row
    refine ⟨.ref t, rfl, t, rfl, ⟨_, .of (s0 _ _ hT)⟩, for_tup (K := K) (a := t) (xs := row.map fun (a : Nat) => V.int (a : Nat)) (fun i σ' H' => ∃ (h : Option Nat) (y5 y6 y7 : Option V),
        σ' = [some (.ref m), some (.int (r : Nat)), some (.ref t), some (.ref l), some (vG h), y5, y6, y7] ∧ h = (going cell (row.take i) (some r)).2 ∧ H' l = some (.lst ((going cell (row.take i) (some r)).1.map vS)) ∧ Same H H')
      ⟨some r, none, none, none, rfl, rfl, upd_same, s0⟩ (fun i σ' H' _ ⟨_, _, _, _, _, _, _, s1⟩ => .of (s1 _ _ hT)) ?_ ?_⟩
    · rintro i x σ' H1 hx ⟨h, y5, y6, y7, rfl, eh, hL, s1⟩
      rw [List.getElem?_map] at hx
      obtain ⟨a, ha, rfl⟩ := Option.map_eq_some_iff.mp hx
      have hi : i < row.length := (List.getElem?_eq_some_iff.mp ha).1
      have haa : a < asks := hA a (List.mem_of_getElem? ha)
      have et := take_succ ha
      have eg := going_app cell (row.take i) [a] (some r)
      rw [← et, ← eh] at eg
      cases h with
      | none =>
        refine ⟨.non, rfl, rfl, _, rfl, ?_⟩
        refine iteF ?_
        rw [show going cell [a] none = ([], none) from rfl] at eg
        refine ⟨none, _, _, _, rfl, by rw [eg], by rw [eg, List.append_nil]; exact hL, s1⟩
      | some g =>
        have hg : g < many := going_lt cell M.ok (row.take i) (some r) g (hA.take i) (fun r' e => Option.some.inj e ▸ hrm) eh.symm
        obtain ⟨rs, ras, e1, e2, e3, l1⟩ := M.st
        obtain ⟨ra, cas, f1, f2, l2⟩ := l1 g hg
        obtain ⟨c, g1, g2⟩ := l2 a haa
        refine ⟨.int (g : Nat), rfl, rfl, _, rfl, ?_⟩
        refine iteT ?_
        refine ⟨.ref m, rfl, m, _, 1, .ref rs, rfl, rfl, .of (s1 _ _ e2), atI_nat (j := 1) rfl, .int (g : Nat), rfl, rs, _, _, .ref ra, rfl, rfl, .of (s1 _ _ e3), at_of rfl (by rw [List.getElem?_map, f1]; rfl),
          .int (a : Nat), rfl, ra, _, _, .ref c, rfl, rfl, .of (s1 _ _ f2), at_of rfl (by rw [List.getElem?_map, g1]; rfl), ?_⟩
        refine ⟨c, _, rfl, .of (s1 _ _ g2), rfl, _, _, rfl, _, _, rfl, rfl, ?_⟩
        refine ⟨.ref l, rfl, .inl ⟨rfl, _, .of hL⟩, vS (cell g a).2, rfl, l, _, _, rfl, rfl, hL, ?_, ?_⟩
        · rw [List.length_map]
          exact small1000 (Nat.le_trans (going_len cell _ _) (by rw [List.length_take]; omega))
        · rw [show going cell [a] (some g) = ([(cell g a).2], (cell g a).1) from rfl] at eg
          refine ⟨vG (cell g a).1, rfl, ?_⟩
          refine ⟨(cell g a).1, _, _, _, rfl, by rw [eg], by rw [upd_same, eg, List.map_append]; rfl, fun b o e => ?_⟩
          rw [upd_ne (ne_of_none e hl)]
          exact s1 _ _ e
    · rintro σ' H1 ⟨h, y5, y6, y7, rfl, eh, hL, s1⟩
      rw [List.length_map, List.take_length] at eh hL
      -- return (answers, here)
      refine ⟨.ref l, rfl, vG h, rfl, (by show 2 ≤ sizeLine; decide), fun q hq => ?_⟩
      have s2 : Same H1 (upd H1 q (.tup [V.ref l, vG h])) := same_new hq
      exact k q l _ (s1.trans s2) (by rw [upd_same, eh]) (s2 _ _ hL)
theorem ok_lets {f fR : Addr} {fd fdR : FuncData} (F : Fun K "lets" "lets" sLets f fd) (ml : mg "len" = none)
    (GR : FnOk P w K mg base CX0 1 fR fdR ["machine", "room", "row"] spRun) (bR : Binds K fdR ["machine", "room", "row"] []) (kR : PySem.W.keepIn K (.ref fR) = true) (mR : mg "run" = some (.ref fR)) :
    FnOk P w K mg base CX0 2 f fd ["machine", "room", "row"] spLets := by
  refine F.ok scLets (fun vs H Q E h => ?_) (fun cdv A outer s H vs Q E hr h => ?_)
  · obtain ⟨m, t, r, asks, many, cell, row, rfl, _⟩ := h
    rfl
  · obtain ⟨m, t, r, asks, many, cell, row, rfl, M, hrm, hT, hA, hlen, k⟩ := h
    refine ⟨_, pss_one (ps_ret (pe_cmpR op_eq (pe_callB call_len_seq (by rfl) ml PySem.boot_len (pa_cons (pe_ix ix_tup (pe_call GR hr (by rfl) mR kR bR .nil pass0 (pa_cons (pv 0) (pa_cons (pv 1) (pa_cons (pv 2) pa_nil)))) pe_int (fun _ _ => rfl)) pa_nil))
      (pe_callB call_len_seq (by rfl) ml PySem.boot_len (pa_cons (pv 2) pa_nil)) (nomark _))), ?_⟩
    refine ⟨.ref m, rfl, .int (r : Nat), rfl, .ref t, rfl, m, t, r, asks, many, cell, row, rfl, M, hrm, hT, hA, hlen, fun q l H1 s1 hq hl => ?_⟩
    refine ⟨q, _, 0, .ref l, rfl, rfl, .of hq, atI_nat (j := 0) rfl, l, _, rfl, .inl (.of hl), .ref t, rfl, t, _, rfl, .inr (.of (s1 _ _ hT)), rfl, ?_⟩
    rw [show decide (V.int (((going cell row (some r)).1.map vS).length : Nat) = V.int ((row.map fun (a : Nat) => V.int (a : Nat)).length : Nat)) = decide ((going cell row (some r)).1.length = row.length) from decide_eq_decide.mpr (by
      rw [List.length_map, List.length_map]
      constructor
      · intro e
        exact Int.ofNat.inj (V.int.inj e)
      · intro e
        rw [e])]
    exact k H1 s1
end
end K05

namespace K05
open PySem PySem.Spec PyProof.Rows L2
/-! ## reached: a list of rooms, unlike ones, with rows; closed under the cells' ways -/
theorem scReached : FnScope ["machine", "found", "met", "at", "room", "row", "ask", "goes"] ["machine"] (defScope sReached) := ⟨rfl, rfl, rfl, by decide +kernel, rfl, by decide +kernel, by decide +kernel⟩
structure Fnd (H : Hp) (F : Addr) (asks many : Nat) (ts : List Addr) (fs : List (Nat × List Nat)) : Prop where
  st : H F = some (.lst (ts.map V.ref))
  len : ts.length = fs.length
  at_ : ∀ (i : Nat) (t : Addr) (r : Nat) (row : List Nat), ts[i]? = some t → fs[i]? = some (r, row) → ∃ rw : Addr, H t = some (.tup [.int (r : Nat), .ref rw]) ∧ RowAt H rw row
  ok : ∀ (r : Nat) (row : List Nat), (r, row) ∈ fs → r < many ∧ AsksOk asks row
  ln : ∀ (i r : Nat) (row : List Nat), fs[i]? = some (r, row) → row.length ≤ i
  nd : (fs.map Prod.fst).Nodup
/-- unlike numbers below n are at most n -/
theorem few_of : ∀ (n : Nat) (l : List Nat), l.Nodup → (∀ x, x ∈ l → x < n) → l.length ≤ n
  | 0, l, _, h => by
    cases l with
    | nil => exact Nat.le_refl _
    | cons x r => exact absurd (h x List.mem_cons_self) (Nat.not_lt_zero _)
  | n + 1, l, nd, h => by
    have ih := few_of n (l.erase n) (nd.erase n) (fun x hx => by
      have h1 := (nd.mem_erase_iff).mp hx
      have h2 := h x h1.2
      have h3 := h1.1
      omega)
    have h4 : l.length - 1 ≤ (l.erase n).length := List.le_length_erase
    omega
section
variable {H H1 H2 : Hp} {F t rw : Addr} {asks many g : Nat} {ts : List Addr} {fs : List (Nat × List Nat)} {row : List Nat}
theorem Fnd.few (f : Fnd H F asks many ts fs) : fs.length ≤ many := by
  have q := few_of many (fs.map Prod.fst) f.nd (fun x hx => by
    obtain ⟨⟨r, row⟩, h1, rfl⟩ := List.mem_map.mp hx
    exact (f.ok r row h1).1)
  rw [List.length_map] at q
  exact q
theorem Fnd.keep (f : Fnd H1 F asks many ts fs) (k : TupKeep H1 H2) (hF : H2 F = some (.lst (ts.map V.ref))) : Fnd H2 F asks many ts fs :=
  ⟨hF, f.len, fun i t r row h1 h2 => let ⟨rw, a, b⟩ := f.at_ i t r row h1 h2; ⟨rw, k _ _ a, b.tk k⟩, f.ok, f.ln, f.nd⟩
theorem Fnd.push (f : Fnd H1 F asks many ts fs) (k : TupKeep H1 H2) (hF : H2 F = some (.lst (ts.map V.ref))) (ht : H2 t = some (.tup [.int (g : Nat), .ref rw])) (hr : RowAt H2 rw row)
    (hg : g < many) (hn : g ∉ fs.map Prod.fst) (ha : AsksOk asks row) (hl : row.length ≤ fs.length) : Fnd (upd H2 F (.lst (ts.map V.ref ++ [.ref t]))) F asks many (ts ++ [t]) (fs ++ [(g, row)]) := by
  have k2 : TupKeep H2 (upd H2 F (.lst (ts.map V.ref ++ [.ref t]))) := tk_lst hF
  refine ⟨by rw [upd_same, List.map_append]; rfl, by rw [List.length_append, List.length_append, f.len]; rfl, fun i t' r row' h1 h2 => ?_, fun r row' h => ?_, fun i r row' h => ?_, ?_⟩
  · by_cases hi : i < fs.length
    · rw [List.getElem?_append_left (by rw [f.len]; exact hi)] at h1
      rw [List.getElem?_append_left hi] at h2
      obtain ⟨rw', a, b⟩ := f.at_ i t' r row' h1 h2
      exact ⟨rw', k2 _ _ (k _ _ a), (b.tk k).tk k2⟩
    · rw [List.getElem?_append_right (by rw [f.len]; omega)] at h1
      rw [List.getElem?_append_right (by omega)] at h2
      have hz : i - fs.length = 0 := by
        have := (List.getElem?_eq_some_iff.mp h2).1
        rw [List.length_singleton] at this
        omega
      rw [f.len, hz] at h1
      rw [hz] at h2
      have e1 : t = t' := Option.some.inj h1
      have e2 : (g, row) = (r, row') := Option.some.inj h2
      cases e2
      subst e1
      exact ⟨rw, k2 _ _ ht, hr.tk k2⟩
  · rcases List.mem_append.mp h with h | h
    · exact f.ok r row' h
    · have e := List.mem_singleton.mp h
      cases e
      exact ⟨hg, ha⟩
  · by_cases hi : i < fs.length
    · rw [List.getElem?_append_left hi] at h
      exact f.ln i r row' h
    · rw [List.getElem?_append_right (by omega)] at h
      have hz : i - fs.length = 0 := by
        have := (List.getElem?_eq_some_iff.mp h).1
        rw [List.length_singleton] at this
        omega
      rw [hz] at h
      have e2 : (g, row) = (r, row') := Option.some.inj h
      cases e2
      omega
  · rw [List.map_append]
    refine List.nodup_append.mpr ⟨f.nd, by simp, fun a ha b hb e => ?_⟩
    have e2 : b = g := by simpa using hb
    subst e
    rw [e2] at ha
    exact hn ha
end
/-- the dict of the rooms met -/
def Met (H : Hp) (D : Addr) (rs : List Nat) : Prop := ∃ kvs : List (Key × V), H D = some (.dK kvs) ∧ kvs.length ≤ rs.length ∧ ∀ g : Nat, (valV kvs (Sum.inl (g : Int))).isSome = decide (g ∈ rs)
def Clo (cell : CellF) (asks n : Nat) (fs : List (Nat × List Nat)) : Prop := ∀ (i r : Nat) (row : List Nat), i < n → fs[i]? = some (r, row) → ∀ a, a < asks → ∀ g, (cell r a).1 = some g → g ∈ fs.map Prod.fst
def spReached : Sp := fun vs H Q _ => ∃ (m : Addr) (asks many : Nat) (cell : CellF), vs = [.ref m] ∧ Mach H m asks many cell ∧
  ∀ (F : Addr) (ts : List Addr) (fs : List (Nat × List Nat)) (H' : Hp), Same H H' → H F = none → Fnd H' F asks many ts fs → Clo cell asks fs.length fs → 0 ∈ fs.map Prod.fst → Q (.ref F) H'
section
variable {P : Program} {w : World} {K : PySem.W.Frag} {mg : Str → Option Value} {base : Heap}
theorem ok_reached {f : Addr} {fd : FuncData} (F : Fun K "reached" "reached" sReached f fd) (ml : mg "len" = none) (mr : mg "range" = none) : FnOk P w K mg base CX0 1 f fd ["machine"] spReached := by
  refine F.ok scReached (fun vs H Q E h => ?_) (fun cdv A outer s H vs Q E hr h => ?_)
  · obtain ⟨m, asks, many, cell, rfl, _⟩ := h
    rfl
  · obtain ⟨m, asks, many, cell, rfl, M, k⟩ := h
    have hu := hu_of hr
    refine ⟨_, pss_cons (ps_set (i := 1) scReached.nd rfl (.inl rfl) (pe_lst (pa_cons (pe_tup (pa_cons pe_int (pa_cons (pe_tup pa_nil) pa_nil))) pa_nil)))
      (pss_cons (ps_set (i := 2) scReached.nd rfl (.inl rfl) (pe_disp (pps_cons pe_int pe_bl pps_nil) (by rfl) (by rfl) (fun z => by cases z) (by decide)))
      (C8.pss_cut (ps_set (i := 3) scReached.nd rfl (.inl rfl) pe_int)
      (pss_cons (ps_while PassesOwn.never (pt_cmpR op_lt (pv 3) (pe_callB call_len_seq (by rfl) ml PySem.boot_len (pa_cons (pv 1) pa_nil)) (nomark _))
        (pss_cons (ps_asg (pe_ix ix_list (pv 1) (pv 3) (fun _ _ => rfl)) (pg_tup rfl (pgs_cons (pg_name (i := 4) scReached.nd rfl (.inl rfl)) (pgs_cons (pg_name (i := 5) scReached.nd rfl (.inl rfl)) pgs_nil))))
        (pss_cons (ps_for PassesOwn.never rfl (pi_range1 (by rfl) mr (pa_cons (pe_ix ix_tup (pv 0) pe_int (fun _ _ => rfl)) pa_nil)) (pg_name (i := 6) scReached.nd rfl (.inl rfl))
          (C8.pss_cut (ps_set (i := 7) scReached.nd rfl (.inl rfl) (pe_ix ix_tup (pe_ix ix_tup (pe_ix ix_tup (pe_ix ix_tup (pv 0) pe_int (fun _ _ => rfl)) (pv 4) (fun _ _ => rfl)) (pv 6) (fun _ _ => rfl)) pe_int (fun _ _ => rfl)))
          (pss_one (ps_if (PW.pt (pw_and (pt_cmpR op_notN (pv 7) pe_non (nomark _)) (pw_and1 (pt_cmp (pc_dnotin hu (pv 7) (pv 2))))))
            (pss_cons (ps_dput hu (pv 2) (pv 7) pe_bl rfl)
            (pss_one (ps_expr (pe_bm PySem.F.plainAttrs_list PySem.F.slot_list_append PySem.F.type_list_append mt_append (pv 1) (pa_cons
              (pe_tup (pa_cons (pv 7) (pa_cons (pe_mid (pe_op op_catA (pv 5) (pe_tup (pa_cons (pv 6) pa_nil)))) pa_nil))) pa_nil))))) pss_nil))))
        (pss_one (ps_set (i := 3) scReached.nd rfl (.inl rfl) (pe_op op_add (pv 3) pe_int))))))
      (pss_one (ps_ret (pv 1)))))), ?_⟩
    -- found = [(0, ())]; met = {0: True}; at = 0
    refine ⟨Nat.zero_le _, fun e0 he0 => ⟨(by show 2 ≤ sizeLine; decide), fun t0 ht0 => ⟨(by show 1 ≤ sizeLine; decide), fun F hF0 => ?_⟩⟩⟩
    refine fun D hD0 => ⟨upd_same, [(Sum.inl 0, .bl true)], rfl, by decide, ?_⟩
    refine ⟨fun σ' H' => σ' = [some (.ref m), some (.ref F), some (.ref D), some (.int ((0 : Nat) : Int)), none, none, none, none] ∧ Fnd H' F asks many [t0] [(0, [])] ∧ Met H' D [0] ∧ Same H H' ∧ H F = none ∧ H D = none ∧ F ≠ D, ?_, ?_⟩
    · have s1 : Same H (upd H e0 (.tup [])) := same_new he0
      have s2 : Same (upd H e0 (.tup [])) (upd (upd H e0 (.tup [])) t0 (.tup [.int 0, .ref e0])) := same_new ht0
      have s3 : Same (upd (upd H e0 (.tup [])) t0 (.tup [.int 0, .ref e0])) (upd (upd (upd H e0 (.tup [])) t0 (.tup [.int 0, .ref e0])) F (.lst [.ref t0])) := same_new hF0
      have s4 : ∀ o1 o2, Same (upd (upd (upd H e0 (.tup [])) t0 (.tup [.int 0, .ref e0])) F (.lst [.ref t0])) (upd (upd (upd (upd (upd H e0 (.tup [])) t0 (.tup [.int 0, .ref e0])) F (.lst [.ref t0])) D o1) D o2) := fun o1 o2 b u e => by
        rw [upd_ne (ne_of_none e hD0), upd_ne (ne_of_none e hD0)]
        exact e
      refine ⟨rfl, ⟨s4 _ _ _ _ upd_same, rfl, fun i t r row h1 h2 => ?_, fun r row h => ?_, fun i r row h => ?_, by simp⟩, ⟨[(Sum.inl 0, .bl true)], upd_same, Nat.le_refl _, fun g => ?_⟩, ((s1.trans s2).trans s3).trans (s4 _ _),
        (s1.trans s2).free hF0, ((s1.trans s2).trans s3).free hD0, ne_of_none upd_same hD0⟩
      · have hz : i = 0 := by
          have := (List.getElem?_eq_some_iff.mp h1).1
          rw [List.length_singleton] at this
          omega
        subst hz
        have q1 : t0 = t := Option.some.inj h1
        have q2 : ((0, []) : Nat × List Nat) = (r, row) := Option.some.inj h2
        cases q2
        subst q1
        exact ⟨e0, s4 _ _ _ _ (s3 _ _ upd_same), s4 _ _ _ _ (s3 _ _ (s2 _ _ upd_same))⟩
      · have e := List.mem_singleton.mp h
        cases e
        exact ⟨M.m1, fun a ha => absurd ha List.not_mem_nil⟩
      · have hz : i = 0 := by
          have := (List.getElem?_eq_some_iff.mp h).1
          rw [List.length_singleton] at this
          omega
        subst hz
        have q2 : ((0, []) : Nat × List Nat) = (r, row) := Option.some.inj h
        cases q2
        exact Nat.le_refl _
      · by_cases hg : g = 0
        · subst hg
          rw [valV_pos (by rfl)]
          rfl
        · rw [valV_neg (fun z => hg (by have := Sum.inl.inj z; omega)), valV_nil, decide_eq_false (by simpa using hg)]
          rfl
    rintro _ H0 ⟨rfl, N0, MT0, S0, hF, hD, FD⟩
    -- while at < len(found)
    refine ⟨fun mm σ' H' => ∃ (n : Nat) (ts : List Addr) (fs : List (Nat × List Nat)) (y4 y5 y6 y7 : Option V), σ' = [some (.ref m), some (.ref F), some (.ref D), some (.int (n : Nat)), y4, y5, y6, y7] ∧ mm + n = many ∧ n ≤ fs.length ∧
        Fnd H' F asks many ts fs ∧ Met H' D (fs.map Prod.fst) ∧ Clo cell asks n fs ∧ 0 ∈ fs.map Prod.fst ∧ Same H H',
      ⟨many, 0, [t0], [(0, [])], none, none, none, none, rfl, rfl, Nat.zero_le _, N0, MT0, fun i r row hi => absurd hi (Nat.not_lt_zero _), by simp, S0⟩, fun mm σ' H1 hW => ?_⟩
    obtain ⟨n, ts, fs, y4, y5, y6, y7, rfl, hm, hn, N1, MT1, C1, z1, S1⟩ := hW
    refine ⟨.int (n : Nat), rfl, .ref F, rfl, F, _, rfl, .inl (.of N1.st), _, _, rfl, rfl, _, rfl, ite2 (fun c => ?_) (fun c => ?_)⟩
    · have c1 : (n : Int) < (((ts.map V.ref).length : Nat) : Int) := of_decide_eq_true c
      rw [List.length_map, N1.len] at c1
      have hlt : n < fs.length := by omega
      have hfew := N1.few
      have hm24 := M.m24
      obtain ⟨t, ht⟩ : ∃ t, ts[n]? = some t := ⟨ts[n]'(by rw [N1.len]; exact hlt), List.getElem?_eq_getElem _⟩
      obtain ⟨r, row, hrr⟩ : ∃ r row, fs[n]? = some (r, row) := ⟨fs[n].1, fs[n].2, List.getElem?_eq_getElem hlt⟩
      obtain ⟨rw0, hT, hRW⟩ := N1.at_ n t r row ht hrr
      obtain ⟨hrm, hAs⟩ := N1.ok r row (List.mem_of_getElem? hrr)
      have hrl := N1.ln n r row hrr
      obtain ⟨rs, ras, e1, e2, e3, l1⟩ := M.st
      obtain ⟨ra, cas, f1, f2, l2⟩ := l1 r hrm
      refine ⟨fun σ' H' => ∃ (ts : List Addr) (fs : List (Nat × List Nat)) (y4 y5 y6 y7 : Option V), σ' = [some (.ref m), some (.ref F), some (.ref D), some (.int ((n + 1 : Nat) : Int)), y4, y5, y6, y7] ∧ n + 1 ≤ fs.length ∧
          Fnd H' F asks many ts fs ∧ Met H' D (fs.map Prod.fst) ∧ Clo cell asks (n + 1) fs ∧ 0 ∈ fs.map Prod.fst ∧ Same H H',
        fun σ' H' ⟨ts', fs', x4, x5, x6, x7, q0, q1, q2, q3, q4, q5, q6⟩ => ⟨mm - 1, by omega, n + 1, ts', fs', x4, x5, x6, x7, q0, by omega, q1, q2, q3, q4, q5, q6⟩, ?_⟩
      -- room, row = found[at]
      refine ⟨.ref F, rfl, .int (n : Nat), rfl, F, _, _, .ref t, rfl, rfl, .of N1.st, at_of rfl (by rw [List.getElem?_map, ht]; rfl), t, _, rfl, .of hT, rfl, _, _, rfl, _, _, rfl, rfl, ?_⟩
      -- for ask in range(machine[0])
      refine ⟨.ref m, rfl, m, _, 0, .int (asks : Nat), rfl, rfl, .of (S1 _ _ e2), atI_nat (j := 0) rfl, (asks : Nat), rfl, by have := M.a4; omega, by have := M.a4; omega, for_range (n := ((asks : Nat) : Int).toNat) (fun j σ' H' => ∃ (ts2 : List Addr) (fs2 : List (Nat × List Nat)) (y6 y7 : Option V),
          σ' = [some (.ref m), some (.ref F), some (.ref D), some (.int (n : Nat)), some (.int (r : Nat)), some (.ref rw0), y6, y7] ∧ (∀ i, i < fs.length → fs2[i]? = fs[i]?) ∧ fs.length ≤ fs2.length ∧ Fnd H' F asks many ts2 fs2 ∧ Met H' D (fs2.map Prod.fst) ∧
          (∀ a, a < j → ∀ g, (cell r a).1 = some g → g ∈ fs2.map Prod.fst) ∧ (∀ g, g ∈ fs.map Prod.fst → g ∈ fs2.map Prod.fst) ∧ Same H H' ∧ RowAt H' rw0 row)
        ⟨ts, fs, _, _, rfl, fun _ _ => rfl, Nat.le_refl _, N1, MT1, fun a ha => absurd ha (Nat.not_lt_zero _), fun _ hg => hg, S1, hRW⟩ ?_ ?_⟩
      · rintro j σ' G1 hj ⟨ts2, fs2, x6, x7, rfl, ex, le, N2, MT2, C2, sub, S2, hrw⟩
        have hj2 : j < asks := by omega
        obtain ⟨cc, g1, g2⟩ := l2 j hj2
        -- goes = machine[1][room][ask][0]
        refine ⟨fun σ' H' => (∃ go : Option Nat, go = (cell r j).1 ∧ σ' = [some (.ref m), some (.ref F), some (.ref D), some (.int (n : Nat)), some (.int (r : Nat)), some (.ref rw0), some (.int (0 + (j : Nat))), some (vG go)]) ∧ H' = G1,
          ⟨.ref m, rfl, m, _, 1, .ref rs, rfl, rfl, .of (S2 _ _ e2), atI_nat (j := 1) rfl, .int (r : Nat), rfl, rs, _, _, .ref ra, rfl, rfl, .of (S2 _ _ e3), at_of rfl (by rw [List.getElem?_map, f1]; rfl),
            .int (0 + (j : Nat)), rfl, ra, _, _, .ref cc, rfl, rfl, .of (S2 _ _ f2), at_of (Int.zero_add _) (by rw [List.getElem?_map, g1]; rfl), cc, _, 0, vG (cell r j).1, rfl, rfl, .of (S2 _ _ g2), atI_nat (j := 0) rfl, ⟨_, rfl, rfl⟩, rfl⟩, ?_⟩
        rintro _ G1 ⟨⟨go, ego, rfl⟩, rfl⟩
        obtain ⟨kvs, hkv, hkl, hkm⟩ := id MT2
        cases go with
        | none =>
          refine ⟨.non, rfl, rfl, _, rfl, ?_⟩
          refine iteF ?_
          refine iteF ?_
          refine ⟨ts2, fs2, _, _, rfl, ex, le, N2, MT2, fun a ha g hg => ?_, sub, S2, hrw⟩
          by_cases haj : a = j
          · subst haj
            rw [← ego] at hg
            cases hg
          · exact C2 a (by omega) g hg
        | some g =>
          have hgm : g < many := M.ok r hrm j hj2 g ego.symm
          refine ⟨.int (g : Nat), rfl, rfl, _, rfl, ?_⟩
          refine iteT ?_
          refine ⟨.int (g : Nat), rfl, .ref D, rfl, D, _, rfl, DGet.k (k := Sum.inl (g : Int)) hkv, _, rfl, ?_⟩
          rw [hkm g]
          by_cases hg : g ∈ fs2.map Prod.fst
          · rw [decide_eq_true hg]
            refine iteF ?_
            refine ⟨ts2, fs2, _, _, rfl, ex, le, N2, MT2, fun a ha g' hg' => ?_, sub, S2, hrw⟩
            by_cases haj : a = j
            · subst haj
              rw [← ego] at hg'
              cases hg'
              exact hg
            · exact C2 a (by omega) g' hg'
          · rw [decide_eq_false hg]
            refine iteT ?_
            have hfew2 := N2.few
            have hrl2 : (fs2.map Prod.fst).length = fs2.length := List.length_map _
            -- met[goes] = True
            refine ⟨.ref D, rfl, .int (g : Nat), rfl, D, _, rfl, DPut.k (k := Sum.inl (g : Int)) hkv (small1000 (by omega)), ?_⟩
            have k1 : TupKeep G1 (upd G1 D (.dK (putK kvs (Sum.inl (g : Int)) (.bl true)))) := fun b xs e => by
              rw [upd_ne (ne_of e hkv (by intro z; cases z))]
              exact e
            have hFA : upd G1 D (.dK (putK kvs (Sum.inl (g : Int)) (.bl true))) F = some (.lst (ts2.map V.ref)) := by
              rw [upd_ne FD]
              exact N2.st
            have hDA : upd G1 D (.dK (putK kvs (Sum.inl (g : Int)) (.bl true))) D = some (.dK (putK kvs (Sum.inl (g : Int)) (.bl true))) := upd_same
            have S3 : Same H (upd G1 D (.dK (putK kvs (Sum.inl (g : Int)) (.bl true)))) := fun b o e => by
              rw [upd_ne (ne_of_none e hD)]
              exact S2 _ _ e
            have hrwA := hrw.tk k1
            -- found.append((goes, row + (ask,)))
            refine ⟨.ref F, rfl, .inl ⟨rfl, _, .of hFA⟩, .int (g : Nat), rfl, fun v H' => ∃ z : Addr, v = .ref z ∧ RowAt H' z (row ++ [j]) ∧ Same (upd G1 D (.dK (putK kvs (Sum.inl (g : Int)) (.bl true)))) H',
              ⟨.ref rw0, rfl, .int (0 + (j : Nat)), rfl, (by show 1 ≤ sizeLine; decide), fun q hq => ⟨rw0, q, _, _, rfl, rfl, .of (same_new hq _ _ hrwA), .of upd_same, ?_, fun h0 => ?_, fun _ h1 => (nomatch h1), fun _ _ z hz => ?_⟩⟩, ?_⟩
            · rw [List.length_map]
              exact sz (by show row.length + 1 ≤ 1000; omega)
            · have hr0 : row = [] := List.map_eq_nil_iff.mp h0
              subst hr0
              refine ⟨q, rfl, ?_, same_new hq⟩
              show upd _ q _ q = some (.tup [V.int (j : Nat)])
              rw [upd_same, Int.zero_add]
            · refine ⟨z, rfl, ?_, (same_new hq).trans (same_new hz)⟩
              show upd _ z _ z = some (.tup ((row ++ [j]).map fun (a : Nat) => V.int (a : Nat)))
              rw [upd_same, Int.zero_add, List.map_append]
              rfl
            rintro _ G2 ⟨z, rfl, hz, s5⟩
            refine ⟨(by show 2 ≤ sizeLine; decide), fun t2 ht2 => ?_⟩
            have s6 : Same G2 (upd G2 t2 (.tup [V.int (g : Nat), V.ref z])) := same_new ht2
            have hF6 := s6 _ _ (s5 _ _ hFA)
            have hD6 := s6 _ _ (s5 _ _ hDA)
            refine ⟨F, _, .ref t2, rfl, rfl, hF6, (by rw [List.length_map, N2.len]; exact small1000 (by omega)), ?_⟩
            have N3 := N2.push (g := g) (t := t2) (rw := z) (row := row ++ [j]) ((k1.trans (tk_same s5)).trans (tk_same s6)) hF6 upd_same (hz.tk (tk_same s6)) hgm hg (hAs.app (fun a ha => by rw [List.mem_singleton.mp ha]; exact hj2))
              (by rw [List.length_append, List.length_singleton]; omega)
            refine ⟨ts2 ++ [t2], fs2 ++ [(g, row ++ [j])], _, _, rfl, fun i hi => ?_, by rw [List.length_append]; omega, N3, ⟨_, by rw [upd_ne FD.symm]; exact hD6, ?_, fun g' => ?_⟩, fun a ha g' hg' => ?_, fun g' hg' => ?_, fun b o e => ?_, ?_⟩
            · rw [List.getElem?_append_left (by omega)]
              exact ex i hi
            · have q := length_putK kvs (Sum.inl (g : Int) : Key) (.bl true)
              rw [List.map_append, List.length_append]
              show _ ≤ _ + 1
              omega
            · rw [valV_put, List.map_append]
              by_cases hgg : g' = g
              · subst hgg
                rw [if_pos rfl, decide_eq_true (by simp)]
                rfl
              · rw [if_neg (fun z => hgg (by have := Sum.inl.inj z; omega)), hkm g']
                exact decide_eq_decide.mpr (by simp [hgg])
            · rw [List.map_append]
              by_cases haj : a = j
              · subst haj
                rw [← ego] at hg'
                cases hg'
                exact List.mem_append_right _ (by simp)
              · exact List.mem_append_left _ (C2 a (by omega) g' hg')
            · rw [List.map_append]
              exact List.mem_append_left _ (sub g' hg')
            · rw [upd_ne (ne_of_none e hF)]
              exact s6 _ _ (s5 _ _ (S3 _ _ e))
            · exact ((hrwA.tk (tk_same s5)).tk (tk_same s6)).tk (tk_lst hF6)
      · rintro σ' G1 ⟨ts2, fs2, x6, x7, rfl, ex, le, N2, MT2, C2, sub, S2, hrw⟩
        -- at = at + 1
        refine ⟨.int (n : Nat), rfl, _, _, rfl, rfl, ?_⟩
        refine ⟨ts2, fs2, _, _, _, _, rfl, by omega, N2, MT2, fun i r' row' hi hi2 a ha g hg => ?_, sub 0 z1, S2⟩
        by_cases hin : i = n
        · subst hin
          rw [ex i hlt, hrr] at hi2
          cases hi2
          exact C2 a (by omega) g hg
        · rw [ex i (by omega)] at hi2
          exact sub g (C1 i r' row' (by omega) hi2 a ha g hg)
    · have c1 : ¬ (n : Int) < (((ts.map V.ref).length : Nat) : Int) := of_decide_eq_false (Bool.eq_false_iff.mpr c)
      rw [List.length_map, N1.len] at c1
      have hnl : n = fs.length := by omega
      -- return found
      refine ⟨.ref F, rfl, ?_⟩
      exact k F ts fs H1 S1 hF N1 (hnl ▸ C1) z1
end
end K05

namespace K05
open PySem PySem.Spec PyProof.Rows L2
/-! ## _law_right: a row is gone as its two pieces are: always True -/
theorem scRight : FnScope ["_law_machine_here", "_law_room", "_law_row_here", "_law_cut", "_law_first", "_law_second", "_law_heard", "_law_middle", "_law_whole", "_law_last", "_law_later", "_law_end"] ["_law_machine_here", "_law_room", "_law_row_here", "_law_cut"] (defScope sRight) :=
  ⟨rfl, rfl, rfl, by decide +kernel, rfl, by decide +kernel, by decide +kernel⟩
def spRight : Sp := fun vs H Q _ => ∃ (m t : Addr) (r cut asks many : Nat) (cell : CellF) (row : List Nat), vs = [.ref m, .int (r : Nat), .ref t, .int (cut : Nat)] ∧ Mach H m asks many cell ∧ r < many ∧ RowAt H t row ∧ AsksOk asks row ∧ row.length ≤ 1000 ∧
  ∀ (H' : Hp), Same H H' → Q (.bl true) H'
/-! ### slices -/
theorem cut_hi (xs : List V) (k : Nat) : cutV xs none (some (k : Int)) = xs.take k := by
  unfold cutV
  rw [HT.sIx_none, HT.sIx_nat, List.drop_zero, Nat.sub_zero]
  by_cases h : k ≤ xs.length
  · rw [Nat.min_eq_left h]
  · rw [Nat.min_eq_right (by omega), List.take_of_length_le (Nat.le_refl _), List.take_of_length_le (by omega)]
theorem cut_lo (xs : List V) (k : Nat) : cutV xs (some (k : Int)) none = xs.drop k := by
  unfold cutV
  rw [HT.sIx_none, HT.sIx_nat]
  by_cases h : k ≤ xs.length
  · rw [Nat.min_eq_left h, List.take_of_length_le (by rw [List.length_drop]; omega)]
  · rw [Nat.min_eq_right (by omega), Nat.sub_self, List.take_zero, List.drop_eq_nil_of_le (by omega)]
/-! ### data -/
def dS : Option Int → PyData
  | none => .none
  | some i => .int i
theorem dp_all (K : PySem.W.Frag) (H : Hp) : ∀ as : List (Option Int), DpAll K H (as.map vS) (as.map dS)
  | [] => .nil
  | none :: r => .cons .non (dp_all K H r)
  | some i :: r => .cons (.int i) (dp_all K H r)
theorem dp_ints (K : PySem.W.Frag) (H : Hp) : ∀ row : List Nat, DpAll K H (row.map fun (a : Nat) => V.int (a : Nat)) (row.map fun (a : Nat) => PyData.int (a : Nat))
  | [] => .nil
  | a :: r => .cons (.int (a : Nat)) (dp_ints K H r)
theorem lay_all : ∀ as : List (Option Int), PyData.canLayAll0 (as.map dS) = true
  | [] => rfl
  | none :: r => by simp [dS, PyData.canLayAll0, PyData.canLay0, lay_all r]
  | some i :: r => by simp [dS, PyData.canLayAll0, PyData.canLay0, lay_all r]
theorem depth_all : ∀ as : List (Option Int), PyData.depthAll (as.map dS) = 0
  | [] => rfl
  | none :: r => by simp [dS, PyData.depthAll, PyData.depth, depth_all r]
  | some i :: r => by simp [dS, PyData.depthAll, PyData.depth, depth_all r]
theorem shaped_all (as : List (Option Int)) : SeqAt.shaped (.list (as.map dS)) = true := by
  simp [SeqAt.shaped, PyData.canLay0, PyData.depth, lay_all, depth_all]
theorem lay_ints : ∀ row : List Nat, PyData.canLayAll0 (row.map fun (a : Nat) => PyData.int (a : Nat)) = true
  | [] => rfl
  | a :: r => by simp [PyData.canLayAll0, PyData.canLay0, lay_ints r]
theorem depth_ints : ∀ row : List Nat, PyData.depthAll (row.map fun (a : Nat) => PyData.int (a : Nat)) = 0
  | [] => rfl
  | a :: r => by simp [PyData.depthAll, PyData.depth, depth_ints r]
theorem shaped_ints (row : List Nat) : SeqAt.shaped (.tuple (row.map fun (a : Nat) => PyData.int (a : Nat))) = true := by
  simp [SeqAt.shaped, PyData.canLay0, PyData.depth, lay_ints, depth_ints]
theorem eqv_all : ∀ as : List (Option Int), PyData.eqvAll (as.map dS) (as.map dS) = true
  | [] => by simp [PyData.eqvAll]
  | none :: r => by simp [dS, PyData.eqvAll, PyData.eqv, eqv_all r]
  | some i :: r => by simp [dS, PyData.eqvAll, PyData.eqv, eqv_all r]
theorem eqv_list (as : List (Option Int)) : PyData.eqv (.list (as.map dS)) (.list (as.map dS)) = true := by
  simp only [PyData.eqv]
  exact eqv_all as
theorem eqv_empty (row : List Nat) : PyData.eqv (.tuple (row.map fun (a : Nat) => PyData.int (a : Nat))) (.tuple []) = decide (row = []) := by
  cases row with
  | nil => simp [PyData.eqv, PyData.eqvAll]
  | cons a r => simp [PyData.eqv, PyData.eqvAll]
theorem scal_vG (a b : Option Nat) : scal (vG a) (vG b) = true := by
  cases a <;> cases b <;> rfl
section
variable {P : Program} {w : World} {K : PySem.W.Frag} {mg : Str → Option Value} {base : Heap}
theorem ok_right {f fR fL : Addr} {fd fdR fdL : FuncData} (F : Fun K "_law_right" "_law_right" sRight f fd)
    (GR : FnOk P w K mg base CX0 1 fR fdR ["machine", "room", "row"] spRun) (bR : Binds K fdR ["machine", "room", "row"] []) (kR : PySem.W.keepIn K (.ref fR) = true) (mR : mg "run" = some (.ref fR))
    (GL : FnOk P w K mg base CX0 2 fL fdL ["machine", "room", "row"] spLets) (bL : Binds K fdL ["machine", "room", "row"] []) (kL : PySem.W.keepIn K (.ref fL) = true) (mL : mg "lets" = some (.ref fL)) :
    FnOk P w K mg base CX0 3 f fd ["_law_machine_here", "_law_room", "_law_row_here", "_law_cut"] spRight := by
  refine F.ok scRight (fun vs H Q E h => ?_) (fun cdv A outer s H vs Q E hr h => ?_)
  · obtain ⟨m, t, r, cut, asks, many, cell, row, rfl, _⟩ := h
    rfl
  · obtain ⟨m, t, r, cut, asks, many, cell, row, rfl, M, hrm, hT, hA, hlen, k⟩ := h
    have hr1 : Room 1 _ := hr.mono (by decide)
    refine ⟨_, pss_cons (ps_set (i := 4) scRight.nd rfl (.inl rfl) (pe_mid (pe_slice sl_tupA (pv 2) po_none (po_some (pv 3)))))
      (pss_cons (ps_set (i := 5) scRight.nd rfl (.inl rfl) (pe_mid (pe_slice sl_tupA (pv 2) (po_some (pv 3)) po_none)))
      (pss_cons (ps_asg (pe_call GR hr1 (by rfl) mR kR bR .nil pass0 (pa_cons (pv 0) (pa_cons (pv 1) (pa_cons (pv 4) pa_nil)))) (pg_tup rfl (pgs_cons (pg_name (i := 6) scRight.nd rfl (.inl rfl)) (pgs_cons (pg_name (i := 7) scRight.nd rfl (.inl rfl)) pgs_nil))))
      (pss_cons (ps_asg (pe_call GR hr1 (by rfl) mR kR bR .nil pass0 (pa_cons (pv 0) (pa_cons (pv 1) (pa_cons (pv 2) pa_nil)))) (pg_tup rfl (pgs_cons (pg_name (i := 8) scRight.nd rfl (.inl rfl)) (pgs_cons (pg_name (i := 9) scRight.nd rfl (.inl rfl)) pgs_nil))))
      (pss_cons (ps_if (pt_cmpR op_isN (pv 7) pe_non (nomark _))
        (pss_cons (ps_if (PW.pt (pw_or (pt_cmpR (op_neD hr.units) (pv 8) (pv 6) (nomark _)) (pw_or1 (pt_cmpR op_notN (pv 9) pe_non (nomark _))))) (pss_one (ps_ret pe_bl)) pss_nil)
        (pss_one (ps_ret (pe_cmpR op_eq (pe_call GL hr (by rfl) mL kL bL .nil pass0 (pa_cons (pv 0) (pa_cons (pv 1) (pa_cons (pv 2) pa_nil))))
          (pe_and (pe_cmpR op_isBl (pe_call GL hr (by rfl) mL kL bL .nil pass0 (pa_cons (pv 0) (pa_cons (pv 1) (pa_cons (pv 4) pa_nil)))) pe_bl (nomark _)) (pe_one (pe_cmpR (op_eqD hr.units) (pv 5) (pe_tup pa_nil) (nomark _)))) (nomark _))))) pss_nil)
      (pss_cons (ps_asg (pe_call GR hr1 (by rfl) mR kR bR .nil pass0 (pa_cons (pv 0) (pa_cons (pv 7) (pa_cons (pv 5) pa_nil)))) (pg_tup rfl (pgs_cons (pg_name (i := 10) scRight.nd rfl (.inl rfl)) (pgs_cons (pg_name (i := 11) scRight.nd rfl (.inl rfl)) pgs_nil))))
      (pss_cons (ps_if (PW.pt (pw_or (pt_cmpR (op_neD hr.units) (pv 8) (pe_op op_cat (pv 6) (pv 10)) (nomark _)) (pw_or1 (pt_cmpR op_ne (pv 9) (pv 11) (nomark _))))) (pss_one (ps_ret pe_bl)) pss_nil)
      (pss_one (ps_ret (pe_and (pe_cmpR op_isBl (pe_call GL hr (by rfl) mL kL bL .nil pass0 (pa_cons (pv 0) (pa_cons (pv 1) (pa_cons (pv 4) pa_nil)))) pe_bl (nomark _))
        (pe_one (pe_cmpR op_eq (pe_call GL hr (by rfl) mL kL bL .nil pass0 (pa_cons (pv 0) (pa_cons (pv 1) (pa_cons (pv 2) pa_nil)))) (pe_call GL hr (by rfl) mL kL bL .nil pass0 (pa_cons (pv 0) (pa_cons (pv 7) (pa_cons (pv 5) pa_nil)))) (nomark _)))))))))))), ?_⟩
    have hmap : (row.map fun (a : Nat) => V.int (a : Nat)).length = row.length := List.length_map _
    -- first = row[:cut]
    refine ⟨fun v H' => ∃ z : Addr, v = .ref z ∧ RowAt H' z (row.take cut) ∧ Same H H', ⟨.ref t, rfl, .int (cut : Nat), rfl, _, rfl, t, _, rfl, .of hT, fun h0 => ⟨t, rfl, ?_, .refl _⟩, fun _ z hz => ⟨z, rfl, ?_, same_new hz⟩⟩, ?_⟩
    · have h1 : min cut row.length = row.length := by
        have q := h0.2
        rw [HT.sIx_nat, hmap] at q
        exact q
      rw [List.take_of_length_le (by omega)]
      exact hT
    · show upd _ z _ z = _
      rw [upd_same, cut_hi, List.map_take]
    rintro _ H1 ⟨t1, rfl, hT1, s1⟩
    -- second = row[cut:]
    refine ⟨fun v H' => ∃ z : Addr, v = .ref z ∧ RowAt H' z (row.drop cut) ∧ Same H1 H', ⟨.ref t, rfl, .int (cut : Nat), rfl, _, rfl, t, _, rfl, .of (s1 _ _ hT), fun h0 => ⟨t, rfl, ?_, .refl _⟩, fun _ z hz => ⟨z, rfl, ?_, same_new hz⟩⟩, ?_⟩
    · have h1 : min cut row.length = 0 := by
        have q := h0.1
        rw [HT.sIx_nat, hmap] at q
        exact q
      have h2 : row.drop cut = row := by
        by_cases hc : cut = 0
        · rw [hc, List.drop_zero]
        · have : row.length = 0 := by omega
          rw [List.length_eq_zero_iff.mp this, List.drop_nil]
      rw [h2]
      exact s1 _ _ hT
    · show upd _ z _ z = _
      rw [upd_same, cut_lo, List.map_drop]
    rintro _ H2 ⟨t2, rfl, hT2, s2⟩
    have s02 : Same H H2 := s1.trans s2
    have et : row = row.take cut ++ row.drop cut := (List.take_append_drop cut row).symm
    have eg := going_app cell (row.take cut) (row.drop cut) (some r)
    rw [← et] at eg
    have hA1 := hA.take cut
    have hA2 := hA.drop cut
    have hl1 : (row.take cut).length ≤ 1000 := by rw [List.length_take]; omega
    have hl2 : (row.drop cut).length ≤ 1000 := by rw [List.length_drop]; omega
    have hll : row.length = (row.take cut).length + (row.drop cut).length := by rw [List.length_take, List.length_drop]; omega
    have hT1' : RowAt H2 t1 (row.take cut) := hT1.tk (tk_same s2)
    generalize hfst : row.take cut = first at *
    generalize hsnd : row.drop cut = second at *
    have hg1 := going_len cell first (some r)
    have hg2 := going_full cell first (some r)
    have hg3 := going_lt cell M.ok first (some r)
    -- heard, middle = run(machine, room, first)
    refine ⟨.ref m, rfl, .int (r : Nat), rfl, .ref t1, rfl, m, t1, r, asks, many, cell, first, rfl, M.tk (tk_same s02), hrm, hT1', hA1, hl1, fun q3 l3 H3 s3 hq3 hh3 => ?_⟩
    have s03 := s02.trans s3
    refine ⟨q3, _, rfl, .of hq3, rfl, _, _, rfl, _, _, rfl, rfl, ?_⟩
    -- whole, last = run(machine, room, row)
    refine ⟨.ref m, rfl, .int (r : Nat), rfl, .ref t, rfl, m, t, r, asks, many, cell, row, rfl, M.tk (tk_same s03), hrm, s03 _ _ hT, hA, hlen, fun q4 l4 H4 s4 hq4 hh4 => ?_⟩
    have s04 := s03.trans s4
    have s34 := s3.trans s4
    have hh34 := s4 _ _ hh3
    refine ⟨q4, _, rfl, .of hq4, rfl, _, _, rfl, _, _, rfl, rfl, ?_⟩
    -- if middle is None
    generalize hmid : (going cell first (some r)).2 = mid at *
    rw [eg] at hq4 hh4
    have fin : ∀ (b : Bool) (H' : Hp), b = true → Same H H' → Q (.bl b) H' := fun b H' e s' => by
      rw [e]
      exact k H' s'
    cases mid with
    | none =>
      rw [going_none, List.append_nil] at eg hh4
      rw [going_none] at hq4
      rw [show (going cell row (some r)).2 = none from congrArg Prod.snd eg]
      refine ⟨.non, rfl, rfl, _, rfl, ?_⟩
      refine iteT ?_
      -- if whole != heard or last is not None: return False
      refine ⟨.ref l4, rfl, .ref l3, rfl, .list ((going cell first (some r)).1.map dS), .list ((going cell first (some r)).1.map dS), .lst (.of hh4) (dp_all _ _ _), .lst (.of hh34) (dp_all _ _ _), shaped_all _, shaped_all _, _, rfl, ?_⟩
      rw [eqv_list]
      refine iteF ?_
      refine ⟨.non, rfl, rfl, _, rfl, ?_⟩
      refine iteF ?_
      -- return lets(machine, room, row) == (lets(machine, room, first) is True and second == ())
      refine ⟨.ref m, rfl, .int (r : Nat), rfl, .ref t, rfl, m, t, r, asks, many, cell, row, rfl, M.tk (tk_same s04), hrm, s04 _ _ hT, hA, hlen, fun H5 s5 => ?_⟩
      have s05 := s04.trans s5
      refine ⟨.ref m, rfl, .int (r : Nat), rfl, .ref t1, rfl, m, t1, r, asks, many, cell, first, rfl, M.tk (tk_same s05), hrm, s5 _ _ (s34 _ _ hT1'), hA1, hl1, fun H6 s6 => ?_⟩
      have s06 := s05.trans s6
      refine ⟨_, true, rfl, rfl, _, rfl, ite2 (fun c => ?_) (fun c => ?_)⟩
      · have c1 : (going cell first (some r)).1.length = first.length := of_decide_eq_true (of_decide_eq_true c)
        refine ⟨.ref t2, rfl, Nat.zero_le _, fun e he => ?_⟩
        have s7 : Same H6 (upd H6 e (.tup [])) := same_new he
        refine ⟨.tuple (second.map fun (a : Nat) => PyData.int (a : Nat)), .tuple [], .tup (.of (s7 _ _ (s6 _ _ (s5 _ _ (s34 _ _ hT2))))) (dp_ints _ _ _), .tup (.of upd_same) .nil, shaped_ints second, shaped_ints [], rfl, ?_⟩
        refine fin _ _ (decide_eq_true (congrArg V.bl ?_)) (s06.trans s7)
        rw [eg, eqv_empty]
        refine decide_eq_decide.mpr ?_
        show (going cell first (some r)).1.length = row.length ↔ second = []
        rw [c1, hll]
        constructor
        · intro z
          exact List.length_eq_zero_iff.mp (by omega)
        · intro z
          rw [z]
          rfl
      · have c1 : ¬ (going cell first (some r)).1.length = first.length := fun z => c (decide_eq_true (decide_eq_true z))
        refine ⟨rfl, fin _ _ (decide_eq_true (congrArg V.bl ?_)) s06⟩
        rw [eg]
        refine decide_eq_false ?_
        show ¬ (going cell first (some r)).1.length = row.length
        omega
    | some g =>
      have hgm : g < many := hg3 g hA1 (fun r' e => Option.some.inj e ▸ hrm) rfl
      have hfull := hg2 g rfl
      refine ⟨.int (g : Nat), rfl, rfl, _, rfl, ?_⟩
      refine iteF ?_
      -- later, end = run(machine, middle, second)
      refine ⟨.ref m, rfl, .int (g : Nat), rfl, .ref t2, rfl, m, t2, g, asks, many, cell, second, rfl, M.tk (tk_same s04), hgm, s34 _ _ hT2, hA2, hl2, fun q5 l5 H5 s5 hq5 hh5 => ?_⟩
      have s05 := s04.trans s5
      have hg4 := going_len cell second (some g)
      refine ⟨q5, _, rfl, .of hq5, rfl, _, _, rfl, _, _, rfl, rfl, ?_⟩
      -- if whole != heard + later or last != end: return False
      refine ⟨.ref l4, rfl, .ref l3, rfl, .ref l5, rfl, l3, l5, _, _, rfl, rfl, s5 _ _ hh34, hh5, ?_, fun p hp => ?_⟩
      · rw [List.length_map, List.length_map]
        exact Nat.le_of_lt (Nat.lt_of_le_of_lt (show (going cell first (some r)).1.length + (going cell second (some g)).1.length ≤ 2000 by omega) (by decide))
      have s6 : Same H5 (upd H5 p (.lst ((going cell first (some r)).1.map vS ++ (going cell second (some g)).1.map vS))) := same_new hp
      have s06 := s05.trans s6
      refine ⟨.list (((going cell first (some r)).1 ++ (going cell second (some g)).1).map dS), .list (((going cell first (some r)).1 ++ (going cell second (some g)).1).map dS), .lst (.of (s6 _ _ (s5 _ _ hh4))) (dp_all _ _ _),
        .lst (.of upd_same) (by rw [← List.map_append]; exact dp_all _ _ _), shaped_all _, shaped_all _, _, rfl, ?_⟩
      rw [eqv_list]
      refine iteF ?_
      refine ⟨vG (going cell row (some r)).2, rfl, vG (going cell second (some g)).2, rfl, scal_vG _ _, _, rfl, ?_⟩
      refine iteNS (show vG (going cell row (some r)).2 = vG (going cell second (some g)).2 by rw [eg]) ?_
      -- return lets(machine, room, first) is True and lets(machine, room, row) == lets(machine, middle, second)
      refine ⟨.ref m, rfl, .int (r : Nat), rfl, .ref t1, rfl, m, t1, r, asks, many, cell, first, rfl, M.tk (tk_same s06), hrm, s6 _ _ (s5 _ _ (s34 _ _ hT1')), hA1, hl1, fun H7 s7 => ?_⟩
      have s07 := s06.trans s7
      refine ⟨_, true, rfl, rfl, _, rfl, ite2 (fun c => ?_) (fun c => absurd (decide_eq_true (decide_eq_true hfull)) c)⟩
      refine ⟨.ref m, rfl, .int (r : Nat), rfl, .ref t, rfl, m, t, r, asks, many, cell, row, rfl, M.tk (tk_same s07), hrm, s07 _ _ hT, hA, hlen, fun H8 s8 => ?_⟩
      have s08 := s07.trans s8
      refine ⟨.ref m, rfl, .int (g : Nat), rfl, .ref t2, rfl, m, t2, g, asks, many, cell, second, rfl, M.tk (tk_same s08), hgm, s8 _ _ (s7 _ _ (s6 _ _ (s5 _ _ (s34 _ _ hT2)))), hA2, hl2, fun H9 s9 => ?_⟩
      refine ⟨rfl, fin _ _ (decide_eq_true (congrArg V.bl ?_)) (s08.trans s9)⟩
      rw [eg]
      refine decide_eq_decide.mpr ?_
      show ((going cell first (some r)).1 ++ (going cell second (some g)).1).length = row.length ↔ (going cell second (some g)).1.length = second.length
      rw [List.length_append]
      omega
end
end K05

namespace K05
open PySem PySem.Spec PyProof.Rows L2
/-! ## the law -/
theorem scLaw : FnScope ["_law_script", "_law_pen", "_law_turn", "_law_machine_here", "_law_room", "_law_row_here", "_law_rooms", "_law_k", "_law_cut", "_law_last"] ["_law_script"] (defScope sLaw) := ⟨rfl, rfl, rfl, by decide +kernel, rfl, by decide +kernel, by decide +kernel⟩
def spLaw (K : PySem.W.Frag) : Sp := fun vs H Q _ => ∃ (sc : Addr) (ns : List Int), vs = [.ref sc] ∧ SqL K H sc (ns.map V.int) ∧ ∀ H', Q (.bl true) H'
theorem flat_ints : ∀ rs : List Nat, (rs.map fun (a : Nat) => V.int (a : Nat)).all flatV = true
  | [] => rfl
  | a :: r => by
    rw [List.map_cons, List.all_cons, flat_ints r]
    rfl
theorem in_ints {g : Nat} : ∀ {rs : List Nat}, g ∈ rs → inV (V.int (g : Nat)) (rs.map fun (a : Nat) => V.int (a : Nat)) = true
  | a :: r, h => by
    show (eqV (V.int (a : Nat)) (V.int (g : Nat)) || inV (V.int (g : Nat)) (r.map fun (a : Nat) => V.int (a : Nat))) = true
    rcases List.mem_cons.mp h with e | h
    · rw [e]
      show (((a : Nat) : Int) == ((a : Nat) : Int) || _) = true
      rw [beq_self_eq_true]
      rfl
    · rw [in_ints h, Bool.or_true]
/-- the rooms found are closed -/
theorem clo_in {cell : CellF} {asks : Nat} {fs : List (Nat × List Nat)} (C : Clo cell asks fs.length fs) : ∀ r, r ∈ fs.map Prod.fst → ∀ a, a < asks → ∀ g, (cell r a).1 = some g → g ∈ fs.map Prod.fst := by
  intro r hr a ha g hg
  obtain ⟨⟨r', row⟩, hm, e⟩ := List.mem_map.mp hr
  have e' : r' = r := e
  subst e'
  obtain ⟨i, hi, he⟩ := List.getElem_of_mem hm
  exact C i r' row hi (by rw [List.getElem?_eq_getElem hi, he]) a ha g hg
section
variable {P : Program} {w : World} {K : PySem.W.Frag} {mg : Str → Option Value} {base : Heap}
theorem ok_law {f fT fM fRo fRu fRe fRi : Addr} {fd fdT fdM fdRo fdRu fdRe fdRi : FuncData} (F : Fun K "law" "law" sLaw f fd) (ml : mg "len" = none) (mr : mg "range" = none)
    (GT : FnOk P w K mg base CX0 1 fT fdT ["_law_pen", "_law_many"] (spTake K)) (bT : Binds K fdT ["_law_pen", "_law_many"] []) (kT : PySem.W.keepIn K (.ref fT) = true) (mT : mg "_law_take" = some (.ref fT))
    (GM : FnOk P w K mg base CX0 3 fM fdM ["_law_pen", "_law_most"] (spMach K)) (bM : Binds K fdM ["_law_pen", "_law_most"] []) (kM : PySem.W.keepIn K (.ref fM) = true) (mM : mg "_law_machine" = some (.ref fM))
    (GRo : FnOk P w K mg base CX0 2 fRo fdRo ["_law_pen", "_law_asks"] (spRow K)) (bRo : Binds K fdRo ["_law_pen", "_law_asks"] []) (kRo : PySem.W.keepIn K (.ref fRo) = true) (mRo : mg "_law_row" = some (.ref fRo))
    (GRu : FnOk P w K mg base CX0 1 fRu fdRu ["machine", "room", "row"] spRun) (bRu : Binds K fdRu ["machine", "room", "row"] []) (kRu : PySem.W.keepIn K (.ref fRu) = true) (mRu : mg "run" = some (.ref fRu))
    (GRe : FnOk P w K mg base CX0 1 fRe fdRe ["machine"] spReached) (bRe : Binds K fdRe ["machine"] []) (kRe : PySem.W.keepIn K (.ref fRe) = true) (mRe : mg "reached" = some (.ref fRe))
    (GRi : FnOk P w K mg base CX0 3 fRi fdRi ["_law_machine_here", "_law_room", "_law_row_here", "_law_cut"] spRight) (bRi : Binds K fdRi ["_law_machine_here", "_law_room", "_law_row_here", "_law_cut"] []) (kRi : PySem.W.keepIn K (.ref fRi) = true) (mRi : mg "_law_right" = some (.ref fRi)) :
    FnOk P w K mg base CX0 4 f fd ["_law_script"] (spLaw K) := by
  refine F.ok scLaw (fun vs H Q E h => ?_) (fun cdv A outer s H vs Q E hr h => ?_)
  · obtain ⟨sc, ns, rfl, _⟩ := h
    rfl
  · obtain ⟨sc, ns, rfl, hS, k⟩ := h
    have hr1 : Room 1 _ := hr.mono (by decide)
    have hr2 : Room 2 _ := hr.mono (by decide)
    refine ⟨_, pss_cons (ps_set (i := 1) scLaw.nd rfl (.inl rfl) (pe_lst (pa_cons (pv 0) (pa_cons pe_int (pa_cons pe_int pa_nil)))))
      (pss_cons (ps_for PassesOwn.never rfl (pi_range1 (by rfl) mr (pa_cons pe_int pa_nil)) (pg_name (i := 2) scLaw.nd rfl (.inl rfl))
        (pss_cons (ps_set (i := 3) scLaw.nd rfl (.inl rfl) (pe_call GM hr (by rfl) mM kM bM .nil pass0 (pa_cons (pv 1) (pa_cons pe_int pa_nil))))
        (pss_cons (ps_setLc (i := 6) (own := [("_law_room", 4), ("_law_row_here", 5)]) (g := gTup K 2 (gCons (gName 4) (gCons (gName 5) gNil))) (tt := tYes) rfl scLaw.nd rfl rfl (sw_true rfl rfl rfl (by decide +kernel))
            (pi_list (pe_call GRe hr1 (by rfl) mRe kRe bRe .nil pass0 (pa_cons (pv 3) pa_nil)))
            (blkOk_by (own := [("_law_room", 4), ("_law_row_here", 5)]) (N := ["_law_script", "_law_pen", "_law_turn", "_law_machine_here", "_law_room", "_law_row_here", "_law_rooms", "_law_k", "_law_cut", "_law_last"]) (sc := defScope sLaw) (by decide +kernel))
            (fun _ _ _ _ _ => pg_tup rfl (pgs_cons (pg_name (i := 4) scLaw.nd rfl (Or.inl rfl)) (pgs_cons (pg_name (i := 5) scLaw.nd rfl (Or.inl rfl)) pgs_nil))) (fun _ _ _ _ _ => pts_nil) (fun _ _ _ _ _ => pv 4))
        (pss_cons (ps_for PassesOwn.never rfl (pi_range1 (by rfl) mr (pa_cons pe_int pa_nil)) (pg_name (i := 7) scLaw.nd rfl (.inl rfl))
          (pss_cons (ps_set (i := 5) scLaw.nd rfl (.inl rfl) (pe_call GRo hr2 (by rfl) mRo kRo bRo .nil pass0 (pa_cons (pv 1) (pa_cons (pe_ix ix_tup (pv 3) pe_int (fun _ _ => rfl)) pa_nil))))
          (pss_cons (ps_set (i := 4) scLaw.nd rfl (.inl rfl) (pe_call GT hr1 (by rfl) mT kT bT .nil pass0 (pa_cons (pv 1) (pa_cons (pe_callB call_len_seq (by rfl) ml PySem.boot_len (pa_cons (pe_ix ix_tup (pv 3) pe_int (fun _ _ => rfl)) pa_nil)) pa_nil))))
          (pss_cons (ps_for PassesOwn.never rfl (pi_tup (pe_tup (pa_cons (pe_call GT hr1 (by rfl) mT kT bT .nil pass0 (pa_cons (pv 1) (pa_cons (pe_op op_add (pe_callB call_len_seq (by rfl) ml PySem.boot_len (pa_cons (pv 5) pa_nil)) pe_int) pa_nil)))
              (pa_cons pe_int (pa_cons (pe_callB call_len_seq (by rfl) ml PySem.boot_len (pa_cons (pv 5) pa_nil))
              (pa_cons (pe_call GT hr1 (by rfl) mT kT bT .nil pass0 (pa_cons (pv 1) (pa_cons (pe_op op_add (pe_callB call_len_seq (by rfl) ml PySem.boot_len (pa_cons (pv 5) pa_nil)) pe_int) pa_nil))) pa_nil)))))) (pg_name (i := 8) scLaw.nd rfl (.inl rfl))
            (pss_one (ps_if (pt_not (pt_val (pe_call GRi hr (by rfl) mRi kRi bRi .nil pass0 (pa_cons (pv 3) (pa_cons (pv 4) (pa_cons (pv 5) (pa_cons (pv 8) pa_nil))))))) (pss_one (ps_ret pe_bl)) pss_nil)))
          (pss_cons (ps_set (i := 9) scLaw.nd rfl (.inl rfl) (pe_ix ix_tup (pe_call GRu hr1 (by rfl) mRu kRu bRu .nil pass0 (pa_cons (pv 3) (pa_cons pe_int (pa_cons (pv 5) pa_nil)))) pe_int (fun _ _ => rfl)))
          (pss_one (ps_if (PW.pt (pw_and (pt_cmpR op_notN (pv 9) pe_non (nomark _)) (pw_and1 (pt_cmpR op_notIn_seq (pv 9) (pv 6) rfl)))) (pss_one (ps_ret pe_bl)) pss_nil)))))))
        (pss_one (ps_for PassesOwn.never rfl (pi_list (pe_call GRe hr1 (by rfl) mRe kRe bRe .nil pass0 (pa_cons (pv 3) pa_nil))) (pg_tup rfl (pgs_cons (pg_name (i := 4) scLaw.nd rfl (.inl rfl)) (pgs_cons (pg_name (i := 5) scLaw.nd rfl (.inl rfl)) pgs_nil)))
          (pss_one (ps_if (pt_not (pt_val (pe_call GRi hr (by rfl) mRi kRi bRi .nil pass0 (pa_cons (pv 3) (pa_cons pe_int (pa_cons
            (pe_mid (pe_op op_catA (pv 5) (pe_mid (pe_slice sl_tupA (pe_call GRo hr2 (by rfl) mRo kRo bRo .nil pass0 (pa_cons (pv 1) (pa_cons (pe_ix ix_tup (pv 3) pe_int (fun _ _ => rfl)) pa_nil))) po_none (po_some pe_int)))))
            (pa_cons (pe_callB call_len_seq (by rfl) ml PySem.boot_len (pa_cons (pv 5) pa_nil)) pa_nil))))))) (pss_one (ps_ret pe_bl)) pss_nil))))))))
      (pss_one (ps_ret pe_bl))), ?_⟩
    -- pen = [script, 0, 0]
    refine ⟨.ref sc, rfl, (by show 3 ≤ sizeLine; decide), fun p hp => ?_⟩
    have P0 : Pen K p sc ns 0 (upd H p (.lst [.ref sc, .int 0, .int 0])) := Pen.first hS hp
    -- for turn in range(3)
    refine ⟨3, rfl, by decide, by decide, for_range (n := 3) (fun i σ' H' => ∃ (n : Nat) (y2 y3 y4 y5 y6 y7 y8 y9 : Option V), σ' = [some (.ref sc), some (.ref p), y2, y3, y4, y5, y6, y7, y8, y9] ∧ n ≤ 3000 * i ∧ Pen K p sc ns n H')
      ⟨0, none, none, none, none, none, none, none, none, rfl, by omega, P0⟩ ?_ (fun σ' H' _ => k H')⟩
    rintro i σ' G ih ⟨n, y2, y3, y4, y5, y6, y7, y8, y9, rfl, hn, PG⟩
    -- machine = _law_machine(pen, 24)
    refine ⟨.ref p, rfl, p, sc, ns, n, rfl, PG, by omega, fun m asks many cell n1 H1 hn1 K1 P1 M1 => ?_⟩
    have a1 := M1.a1
    have a4 := M1.a4
    have m1 := M1.m1
    have m24 := M1.m24
    obtain ⟨rs, ras, e1, e2, e3, l1⟩ := M1.st
    -- rooms = [room for room, row in reached(machine)]
    refine ⟨.ref m, rfl, m, asks, many, cell, rfl, M1, fun F ts fs H2 s2 hF N2 C2 z2 => ⟨F, rfl, ⟨_, .of N2.st⟩, fun D hD => lc_list (K := K) (a := F) (xs := ts.map V.ref) (fun j H' => H' D = some (.lst (((fs.map Prod.fst).take j).map fun (a : Nat) => V.int (a : Nat))) ∧ Same H2 H')
      ⟨upd_same, same_new hD⟩ (fun j H' _ h => .of (h.2 _ _ N2.st)) ?_ ?_⟩⟩
    · rintro j x H3 hx ⟨hD3, s3⟩
      rw [List.getElem?_map] at hx
      obtain ⟨t, ht, rfl⟩ := Option.map_eq_some_iff.mp hx
      have hj : j < fs.length := by
        have := (List.getElem?_eq_some_iff.mp ht).1
        rw [N2.len] at this
        exact this
      obtain ⟨r, row, hrr⟩ : ∃ r row, fs[j]? = some (r, row) := ⟨fs[j].1, fs[j].2, List.getElem?_eq_getElem hj⟩
      obtain ⟨rw0, hT, hRW⟩ := N2.at_ j t r row ht hrr
      have hfew := N2.few
      refine ⟨t, _, rfl, .of (s3 _ _ hT), rfl, _, _, rfl, _, _, rfl, rfl, rfl, ?_⟩
      unfold tYes
      dsimp only
      rw [if_pos rfl]
      refine ⟨.int (r : Nat), rfl, _, hD3, ?_, ?_, fun b o e => ?_⟩
      · rw [List.length_map, List.length_take, List.length_map]
        exact small1000 (by omega)
      · rw [upd_same, take_succ (x := r) (by rw [List.getElem?_map, hrr]; rfl), List.map_append]
        rfl
      · rw [upd_ne (ne_of_none e hD)]
        exact s3 _ _ e
    rintro H3 ⟨hD3, s3⟩
    rw [List.length_map, N2.len, List.take_of_length_le (by rw [List.length_map]; exact Nat.le_refl _)] at hD3
    have P3 : Pen K p sc ns n1 H3 := (P1.same s2).same s3
    have s13 : Same H1 H3 := s2.trans s3
    have M3 : Mach H3 m asks many cell := M1.tk (tk_same s13)
    have Dp : D ≠ p := (P1.same s2).fresh hD
    -- for k in range(4)
    refine ⟨4, rfl, by decide, by decide, for_range (n := 4) (fun j σ' H' => ∃ (n2 : Nat) (y2 y4 y5 y7 y8 y9 : Option V), σ' = [some (.ref sc), some (.ref p), y2, some (.ref m), y4, y5, some (.ref D), y7, y8, y9] ∧ n2 ≤ n1 + 80 * j ∧ Keep p H3 H' ∧ Pen K p sc ns n2 H')
      ⟨n1, _, _, _, _, _, _, rfl, by omega, .refl _ _, P3⟩ ?_ ?_⟩
    · rintro j σ' G1 hj ⟨n2, x2, x4, x5, x7, x8, x9, rfl, hn2, J1, R1⟩
      have T1 : TupKeep H3 G1 := P3.tk J1
      have e2G := T1 _ _ (s13 _ _ e2)
      -- row = _law_row(pen, machine[0])
      refine ⟨.ref p, rfl, .ref m, rfl, m, _, 0, .int (asks : Nat), rfl, rfl, .of e2G, atI_nat (j := 0) rfl, p, sc, ns, n2, asks, rfl, R1, a1, a4, by omega, fun t row n3 G2 hrl hA hn3 J2 R2 hT => ?_⟩
      have T2 : TupKeep G1 G2 := R1.tk J2
      -- room = take(pen, len(machine[1]))
      refine ⟨.ref p, rfl, .ref m, rfl, m, _, 1, .ref rs, rfl, rfl, .of (T2 _ _ e2G), atI_nat (j := 1) rfl, rs, _, rfl, .inr (.of (T2 _ _ (T1 _ _ (s13 _ _ e3)))), p, sc, ns, n3, _, rfl, R2,
        (by rw [List.length_map]; omega), (by rw [List.length_map]; omega), by omega, fun d n4 G3 d0 d1 hn4 J3 R3 => ?_⟩
      rw [List.length_map, e1] at d1
      obtain ⟨r, rfl⟩ : ∃ r : Nat, d = (r : Int) := ⟨d.toNat, by omega⟩
      have hrm : r < many := by omega
      have T3 : TupKeep G2 G3 := R2.tk J3
      have hT3 : RowAt G3 t row := hT.tk T3
      -- for cut in (take(pen, len(row) + 1), 0, len(row), take(pen, len(row) + 1))
      refine ⟨.ref p, rfl, .ref t, rfl, t, _, rfl, .inr (.of hT3), _, _, rfl, rfl, p, sc, ns, n4, _, rfl, R3, (by rw [List.length_map]; omega), (by rw [List.length_map]; omega), by omega, fun c1 n5 G4 c10 c11 hn5 J4 R4 => ?_⟩
      have hT4 : RowAt G4 t row := hT3.tk (R3.tk J4)
      refine ⟨.ref t, rfl, t, _, rfl, .inr (.of hT4), ?_⟩
      refine ⟨.ref p, rfl, .ref t, rfl, t, _, rfl, .inr (.of hT4), _, _, rfl, rfl, p, sc, ns, n5, _, rfl, R4, (by rw [List.length_map]; omega), (by rw [List.length_map]; omega), by omega, fun c4 n6 G5 c40 c41 hn6 J5 R5 => ?_⟩
      have T15 : TupKeep G1 G5 := ((T2.trans T3).trans (R3.tk J4)).trans (R4.tk J5)
      have hT5 : RowAt G5 t row := hT4.tk (R4.tk J5)
      refine ⟨(by show 4 ≤ sizeLine; decide), fun T hTn => ?_⟩
      obtain ⟨cu1, rfl⟩ : ∃ c : Nat, c1 = (c : Int) := ⟨c1.toNat, by omega⟩
      obtain ⟨cu4, rfl⟩ : ∃ c : Nat, c4 = (c : Int) := ⟨c4.toNat, by omega⟩
      have s6 : Same G5 (upd G5 T (.tup [.int (cu1 : Nat), .int 0, .int ((row.map fun (a : Nat) => V.int (a : Nat)).length : Nat), .int (cu4 : Nat)])) := same_new hTn
      have hTT : upd G5 T (.tup [.int (cu1 : Nat), .int 0, .int ((row.map fun (a : Nat) => V.int (a : Nat)).length : Nat), .int (cu4 : Nat)]) T = some (.tup [.int (cu1 : Nat), .int 0, .int ((row.map fun (a : Nat) => V.int (a : Nat)).length : Nat), .int (cu4 : Nat)]) := upd_same
      have M5 : Mach G5 m asks many cell := (M3.tk T1).tk T15
      have J15 : Keep p G1 G5 := (((J2.trans J3).trans J4).trans J5)
      refine ⟨T, rfl, ⟨_, .of hTT⟩, for_tup (K := K) (a := T) (xs := [.int (cu1 : Nat), .int 0, .int ((row.map fun (a : Nat) => V.int (a : Nat)).length : Nat), .int (cu4 : Nat)]) (fun c σ' H' => ∃ (y2 y7 y8 y9 : Option V),
          σ' = [some (.ref sc), some (.ref p), y2, some (.ref m), some (.int (r : Nat)), some (.ref t), some (.ref D), y7, y8, y9] ∧ Same G5 H' ∧ H' T = some (.tup [.int (cu1 : Nat), .int 0, .int ((row.map fun (a : Nat) => V.int (a : Nat)).length : Nat), .int (cu4 : Nat)]))
        ⟨_, _, _, _, rfl, s6, hTT⟩ (fun c σ' H' _ ⟨_, _, _, _, _, _, h⟩ => .of h) ?_ ?_⟩
      · rintro c x σ' G6 hx ⟨w2, w7, w8, w9, rfl, s7, hTc⟩
        obtain ⟨cut, rfl⟩ : ∃ cut : Nat, x = V.int (cut : Nat) := by
          match c, hx with
          | 0, hx => exact ⟨cu1, (Option.some.inj hx).symm⟩
          | 1, hx => exact ⟨0, (Option.some.inj hx).symm⟩
          | 2, hx => exact ⟨_, (Option.some.inj hx).symm⟩
          | 3, hx => exact ⟨cu4, (Option.some.inj hx).symm⟩
          | c + 4, hx => exact absurd hx (by simp)
        -- if not right(machine, room, row, cut): return False
        refine ⟨.ref m, rfl, .int (r : Nat), rfl, .ref t, rfl, .int (cut : Nat), rfl, m, t, r, cut, asks, many, cell, row, rfl, M5.tk (tk_same s7), hrm, s7 _ _ hT5, hA, by omega, fun G7 s8 => ⟨true, rfl, ?_⟩⟩
        refine iteF ?_
        exact ⟨_, _, _, _, rfl, s7.trans s8, s8 _ _ hTc⟩
      · rintro σ' G6 ⟨w2, w7, w8, w9, rfl, s7, hTc⟩
        -- last = run(machine, 0, row)[1]
        refine ⟨.ref m, rfl, .ref t, rfl, m, t, 0, asks, many, cell, row, rfl, M5.tk (tk_same s7), by omega, s7 _ _ hT5, hA, by omega, fun q l G7 s8 hq hl => ?_⟩
        refine ⟨q, _, 1, _, rfl, rfl, .of hq, atI_nat (j := 1) rfl, ?_⟩
        have hin := going_in cell (clo_in C2) row (some 0)
        have done : ∃ (n2 : Nat) (y2 y4 y5 y7 y8 y9 : Option V), [some (V.ref sc), some (.ref p), w2, some (.ref m), some (.int (r : Nat)), some (.ref t), some (.ref D), w7, w8, some (vG (going cell row (some 0)).2)] = [some (V.ref sc), some (.ref p), y2, some (.ref m), y4, y5, some (.ref D), y7, y8, y9] ∧
            n2 ≤ n1 + 80 * (j + 1) ∧ Keep p H3 G7 ∧ Pen K p sc ns n2 G7 :=
          ⟨n6, _, _, _, _, _, _, rfl, by omega, (J1.trans J15).trans (.of (s7.trans s8)), (R5.same s7).same s8⟩
        -- if last is not None and last not in rooms: return False
        refine ⟨vG (going cell row (some 0)).2, rfl, rfl, _, rfl, ?_⟩
        cases hg : (going cell row (some 0)).2 with
        | none =>
          refine iteF ?_
          refine iteF ?_
          rw [hg] at done
          exact done
        | some g =>
          have hgm : g ∈ fs.map Prod.fst := hin g hA (fun r' e => Option.some.inj e ▸ z2) hg
          refine iteT ?_
          refine ⟨.int (g : Nat), rfl, .ref D, rfl, D, _, rfl, .inl (.of (s8 _ _ (s7 _ _ (J15 _ _ Dp (J1 _ _ Dp hD3))))), rfl, flat_ints _, _, rfl, ?_⟩
          rw [if_pos rfl, in_ints hgm]
          refine iteF ?_
          rw [hg] at done
          exact done
    rintro σ' G1 ⟨n2, x2, x4, x5, x7, x8, x9, rfl, hn2, J1, R1⟩
    have T1 : TupKeep H3 G1 := P3.tk J1
    have MG : Mach G1 m asks many cell := M3.tk T1
    have e2G := T1 _ _ (s13 _ _ e2)
    -- for room, row in reached(machine)
    refine ⟨.ref m, rfl, m, asks, many, cell, rfl, MG, fun F2 ts2 fs2 G2 s4 hF2 N4 C4 z4 => ?_⟩
    have F2p : F2 ≠ p := R1.fresh hF2
    have R2 : Pen K p sc ns n2 G2 := R1.same s4
    have hfew := N4.few
    refine ⟨F2, rfl, ⟨_, .of N4.st⟩, for_list (K := K) (a := F2) (xs := ts2.map V.ref) (fun j σ' H' => ∃ (n3 : Nat) (y2 y4 y5 y6 y7 y8 y9 : Option V), σ' = [some (.ref sc), some (.ref p), y2, some (.ref m), y4, y5, y6, y7, y8, y9] ∧ n3 ≤ n2 + 70 * j ∧ Keep p G2 H' ∧ Pen K p sc ns n3 H')
      ⟨n2, _, _, _, _, _, _, _, rfl, by omega, .refl _ _, R2⟩ (fun j σ' H' _ ⟨_, _, _, _, _, _, _, _, _, _, kk, _⟩ => .of (kk _ _ F2p N4.st)) ?_ ?_⟩
    · rintro j x σ' G3 hx ⟨n3, w2, w4, w5, w6, w7, w8, w9, rfl, hn3, J3, R3⟩
      rw [List.getElem?_map] at hx
      obtain ⟨t, ht, rfl⟩ := Option.map_eq_some_iff.mp hx
      have hj : j < fs2.length := by
        have := (List.getElem?_eq_some_iff.mp ht).1
        rw [N4.len] at this
        exact this
      obtain ⟨r, row, hrr⟩ : ∃ r row, fs2[j]? = some (r, row) := ⟨fs2[j].1, fs2[j].2, List.getElem?_eq_getElem hj⟩
      obtain ⟨rw0, hT, hRW⟩ := N4.at_ j t r row ht hrr
      obtain ⟨hrm, hAs⟩ := N4.ok r row (List.mem_of_getElem? hrr)
      have hrl := N4.ln j r row hrr
      have T3 : TupKeep G2 G3 := R2.tk J3
      have e2G3 := T3 _ _ (s4 _ _ e2G)
      have hRW3 : RowAt G3 rw0 row := hRW.tk T3
      refine ⟨t, _, rfl, .of (T3 _ _ hT), rfl, _, _, rfl, _, _, rfl, rfl, ?_⟩
      -- row + _law_row(pen, machine[0])[:9]
      refine ⟨.ref m, rfl, fun v H' => ∃ (z : Addr) (more : List Nat) (n4 : Nat), v = .ref z ∧ RowAt H' z (row ++ more) ∧ AsksOk asks more ∧ more.length ≤ 60 ∧ n4 ≤ n3 + 70 ∧ Keep p G3 H' ∧ Pen K p sc ns n4 H', ?_, ?_⟩
      · refine ⟨.ref rw0, rfl, fun v H' => ∃ (z : Addr) (more : List Nat) (n4 : Nat), v = .ref z ∧ RowAt H' z more ∧ AsksOk asks more ∧ more.length ≤ 60 ∧ n4 ≤ n3 + 70 ∧ Keep p G3 H' ∧ Pen K p sc ns n4 H', ?_, ?_⟩
        · refine ⟨.ref p, rfl, .ref m, rfl, m, _, 0, .int (asks : Nat), rfl, rfl, .of e2G3, atI_nat (j := 0) rfl, p, sc, ns, n3, asks, rfl, R3, a1, a4, by omega, fun t4 row4 n4 G4 hl4 hA4 hn4 J4 R4 hT4 => ?_⟩
          refine ⟨9, rfl, t4, _, rfl, .of hT4, fun _ => ⟨t4, row4, n4, rfl, hT4, hA4, hl4, hn4, J4, R4⟩, fun _ q hq => ⟨q, row4.take 9, n4, rfl, ?_, hA4.take 9, (by rw [List.length_take]; omega), hn4, J4.trans (.new hq), R4.same (same_new hq)⟩⟩
          show upd _ q _ q = _
          rw [upd_same, show ((9 : Int)) = ((9 : Nat) : Int) from rfl, cut_hi, List.map_take]
        rintro _ G4 ⟨z, more, n4, rfl, hz, hA4, hl4, hn4, J4, R4⟩
        have hRW4 : RowAt G4 rw0 row := hRW3.tk (R3.tk J4)
        refine ⟨rw0, z, _, _, rfl, rfl, .of hRW4, .of hz, (by rw [List.length_map, List.length_map]; exact sz (by omega)), fun h0 => ⟨z, more, n4, rfl, ?_, hA4, hl4, hn4, J4, R4⟩, fun _ h0 => ⟨rw0, more, n4, rfl, ?_, hA4, hl4, hn4, J4, R4⟩,
          fun _ _ q hq => ⟨q, more, n4, rfl, ?_, hA4, hl4, hn4, J4.trans (.new hq), R4.same (same_new hq)⟩⟩
        · rw [List.map_eq_nil_iff.mp h0, List.nil_append]
          exact hz
        · rw [List.map_eq_nil_iff.mp h0, List.append_nil]
          exact hRW4
        · show upd _ q _ q = _
          rw [upd_same, List.map_append]
      rintro _ G4 ⟨z, more, n4, rfl, hz, hA4, hl4, hn4, J4, R4⟩
      have T4 : TupKeep G3 G4 := R3.tk J4
      -- if not right(machine, 0, .., len(row)): return False
      refine ⟨.ref rw0, rfl, rw0, _, rfl, .inr (.of (hRW3.tk T4)), m, z, 0, _, asks, many, cell, row ++ more, rfl, ((MG.tk (tk_same s4)).tk T3).tk T4, by omega, hz, hAs.app hA4, (by rw [List.length_append]; omega), fun G5 s5 => ⟨true, rfl, ?_⟩⟩
      refine iteF ?_
      exact ⟨n4, _, _, _, _, _, _, _, rfl, by omega, (J3.trans J4).trans (.of s5), R4.same s5⟩
    · rintro σ' G3 ⟨n3, w2, w4, w5, w6, w7, w8, w9, rfl, hn3, J3, R3⟩
      rw [List.length_map, N4.len] at hn3
      exact ⟨n3, _, _, _, _, _, _, _, _, rfl, by omega, R3⟩
end
end K05

namespace K05
open PySem PySem.Spec PyProof.Rows L2
/-! ## what the top has written -/
theorem all_mk {l : PySem.W.OpenLaw} {w : World} {K : PySem.W.Frag} {h : Heap} {mg : Str → Option Value} {fa f1 f2 f3 f4 f5 f6 f7 f8 f9 f10 : Addr} (X : K.In h) (G : h.Ns mainGlobals mg) (hfa : mg "law" = some (.ref fa))
    {od1 an1 od2 an2 od3 an3 od4 an4 od5 an5 od6 an6 od7 an7 od8 an8 od9 an9 od10 an10 : Option Addr} {sl1 sl2 sl3 sl4 sl5 sl6 sl7 sl8 sl9 sl10 : Array (Option Value)}
    {oc1 kV1 dc1 pm1 cd1 ct1 oc2 kV2 dc2 pm2 cd2 ct2 oc3 kV3 dc3 pm3 cd3 ct3 oc4 kV4 dc4 pm4 cd4 ct4 oc5 kV5 dc5 pm5 cd5 ct5 oc6 kV6 dc6 pm6 cd6 ct6 oc7 kV7 dc7 pm7 cd7 ct7 oc8 kV8 dc8 pm8 cd8 ct8 oc9 kV9 dc9 pm9 cd9 ct9 oc10 kV10 dc10 pm10 cd10 ct10 : Value}
    (a1 : PySem.W.nsIn K mainGlobals "run" = some (some (.ref f1)))
    (l1 : K.lookup f1 = some ⟨oc1, od1, .func (PySem.W.fnOf "run" "run" (defArgs sRun) (defBody sRun) (defScope sRun) .none kV1 dc1 pm1 an1 cd1 ct1), sl1⟩)
    (c1 : PySem.W.codeIn K cd1 "run" = true) (k1 : PySem.W.keepIn K (.ref f1) = true)
    (a2 : PySem.W.nsIn K mainGlobals "lets" = some (some (.ref f2)))
    (l2 : K.lookup f2 = some ⟨oc2, od2, .func (PySem.W.fnOf "lets" "lets" (defArgs sLets) (defBody sLets) (defScope sLets) .none kV2 dc2 pm2 an2 cd2 ct2), sl2⟩)
    (c2 : PySem.W.codeIn K cd2 "lets" = true) (k2 : PySem.W.keepIn K (.ref f2) = true)
    (a3 : PySem.W.nsIn K mainGlobals "reached" = some (some (.ref f3)))
    (l3 : K.lookup f3 = some ⟨oc3, od3, .func (PySem.W.fnOf "reached" "reached" (defArgs sReached) (defBody sReached) (defScope sReached) .none kV3 dc3 pm3 an3 cd3 ct3), sl3⟩)
    (c3 : PySem.W.codeIn K cd3 "reached" = true) (k3 : PySem.W.keepIn K (.ref f3) = true)
    (a4 : PySem.W.nsIn K mainGlobals "_law_take" = some (some (.ref f4)))
    (l4 : K.lookup f4 = some ⟨oc4, od4, .func (PySem.W.fnOf "_law_take" "_law_take" (defArgs sTake) (defBody sTake) (defScope sTake) .none kV4 dc4 pm4 an4 cd4 ct4), sl4⟩)
    (c4 : PySem.W.codeIn K cd4 "_law_take" = true) (k4 : PySem.W.keepIn K (.ref f4) = true)
    (a5 : PySem.W.nsIn K mainGlobals "_law_cell" = some (some (.ref f5)))
    (l5 : K.lookup f5 = some ⟨oc5, od5, .func (PySem.W.fnOf "_law_cell" "_law_cell" (defArgs sCell) (defBody sCell) (defScope sCell) .none kV5 dc5 pm5 an5 cd5 ct5), sl5⟩)
    (c5 : PySem.W.codeIn K cd5 "_law_cell" = true) (k5 : PySem.W.keepIn K (.ref f5) = true)
    (a6 : PySem.W.nsIn K mainGlobals "_law_near" = some (some (.ref f6)))
    (l6 : K.lookup f6 = some ⟨oc6, od6, .func (PySem.W.fnOf "_law_near" "_law_near" (defArgs sNear) (defBody sNear) (defScope sNear) .none kV6 dc6 pm6 an6 cd6 ct6), sl6⟩)
    (c6 : PySem.W.codeIn K cd6 "_law_near" = true) (k6 : PySem.W.keepIn K (.ref f6) = true)
    (a7 : PySem.W.nsIn K mainGlobals "_law_machine" = some (some (.ref f7)))
    (l7 : K.lookup f7 = some ⟨oc7, od7, .func (PySem.W.fnOf "_law_machine" "_law_machine" (defArgs sMach) (defBody sMach) (defScope sMach) .none kV7 dc7 pm7 an7 cd7 ct7), sl7⟩)
    (c7 : PySem.W.codeIn K cd7 "_law_machine" = true) (k7 : PySem.W.keepIn K (.ref f7) = true)
    (a8 : PySem.W.nsIn K mainGlobals "_law_row" = some (some (.ref f8)))
    (l8 : K.lookup f8 = some ⟨oc8, od8, .func (PySem.W.fnOf "_law_row" "_law_row" (defArgs sRow) (defBody sRow) (defScope sRow) .none kV8 dc8 pm8 an8 cd8 ct8), sl8⟩)
    (c8 : PySem.W.codeIn K cd8 "_law_row" = true) (k8 : PySem.W.keepIn K (.ref f8) = true)
    (a9 : PySem.W.nsIn K mainGlobals "_law_right" = some (some (.ref f9)))
    (l9 : K.lookup f9 = some ⟨oc9, od9, .func (PySem.W.fnOf "_law_right" "_law_right" (defArgs sRight) (defBody sRight) (defScope sRight) .none kV9 dc9 pm9 an9 cd9 ct9), sl9⟩)
    (c9 : PySem.W.codeIn K cd9 "_law_right" = true) (k9 : PySem.W.keepIn K (.ref f9) = true)
    (a10 : PySem.W.nsIn K mainGlobals "law" = some (some (.ref f10)))
    (l10 : K.lookup f10 = some ⟨oc10, od10, .func (PySem.W.fnOf "law" "law" (defArgs sLaw) (defBody sLaw) (defScope sLaw) .none kV10 dc10 pm10 an10 cd10 ct10), sl10⟩)
    (c10 : PySem.W.codeIn K cd10 "law" = true) (k10 : PySem.W.keepIn K (.ref f10) = true)
    (z1 : PySem.W.nsIn K mainGlobals "len" = some none) (z2 : PySem.W.nsIn K mainGlobals "abs" = some none) (z3 : PySem.W.nsIn K mainGlobals "range" = some none) (z4 : PySem.W.nsIn K mainGlobals "tuple" = some none) (z5 : PySem.W.nsIn K mainGlobals "int" = some none) :
    ∃ fd : FuncData, (∀ (s : Shared) (v : Value), BindsTo s fd ⟨[v], []⟩ [("_law_script", v)]) ∧ ∀ base : Heap, K.In base → base.Ns mainGlobals mg → FnOk l.prog w K mg base CX0 4 fa fd ["_law_script"] (spLaw K) := by
  have e := hfa.symm.trans (PySem.W.mg_of X G a10)
  cases e
  have F1 := fun_mk (st := sRun) l1 c1 k1
  have F2 := fun_mk (st := sLets) l2 c2 k2
  have F3 := fun_mk (st := sReached) l3 c3 k3
  have F4 := fun_mk (st := sTake) l4 c4 k4
  have F5 := fun_mk (st := sCell) l5 c5 k5
  have F6 := fun_mk (st := sNear) l6 c6 k6
  have F7 := fun_mk (st := sMach) l7 c7 k7
  have F8 := fun_mk (st := sRow) l8 c8 k8
  have F9 := fun_mk (st := sRight) l9 c9 k9
  have F10 := fun_mk (st := sLaw) l10 c10 k10
  have b1 := F1.binds (ps := ["machine", "room", "row"]) fun _ _ _ _ _ _ us hl => match us, hl with | [_, _, _], _ => rfl
  have b2 := F2.binds (ps := ["machine", "room", "row"]) fun _ _ _ _ _ _ us hl => match us, hl with | [_, _, _], _ => rfl
  have b3 := F3.binds (ps := ["machine"]) fun _ _ _ _ _ _ us hl => match us, hl with | [_], _ => rfl
  have b4 := F4.binds (ps := ["_law_pen", "_law_many"]) fun _ _ _ _ _ _ us hl => match us, hl with | [_, _], _ => rfl
  have b5 := F5.binds (ps := ["_law_pen", "_law_many", "_law_share", "_law_kinds"]) fun _ _ _ _ _ _ us hl => match us, hl with | [_, _, _, _], _ => rfl
  have b6 := F6.binds (ps := ["_law_pen", "_law_room", "_law_many", "_law_kinds"]) fun _ _ _ _ _ _ us hl => match us, hl with | [_, _, _, _], _ => rfl
  have b7 := F7.binds (ps := ["_law_pen", "_law_most"]) fun _ _ _ _ _ _ us hl => match us, hl with | [_, _], _ => rfl
  have b8 := F8.binds (ps := ["_law_pen", "_law_asks"]) fun _ _ _ _ _ _ us hl => match us, hl with | [_, _], _ => rfl
  have b9 := F9.binds (ps := ["_law_machine_here", "_law_room", "_law_row_here", "_law_cut"]) fun _ _ _ _ _ _ us hl => match us, hl with | [_, _, _, _], _ => rfl
  have m1 := PySem.W.mg_of X G a1
  have m2 := PySem.W.mg_of X G a2
  have m3 := PySem.W.mg_of X G a3
  have m4 := PySem.W.mg_of X G a4
  have m5 := PySem.W.mg_of X G a5
  have m6 := PySem.W.mg_of X G a6
  have m7 := PySem.W.mg_of X G a7
  have m8 := PySem.W.mg_of X G a8
  have m9 := PySem.W.mg_of X G a9
  have m10 := PySem.W.mg_of X G a10
  have y1 := PySem.W.mg_none_of X G z1
  have y2 := PySem.W.mg_none_of X G z2
  have y3 := PySem.W.mg_none_of X G z3
  have y4 := PySem.W.mg_none_of X G z4
  have y5 := PySem.W.mg_none_of X G z5
  refine ⟨PySem.W.fnOf "law" "law" (defArgs sLaw) (defBody sLaw) (defScope sLaw) .none kV10 dc10 pm10 an10 cd10 ct10, fun s v => .of_eq rfl, fun base _ _ => ?_⟩
  have GT := ok_take (P := l.prog) (w := w) (base := base) F4 y1 y2
  have GC := ok_cell (P := l.prog) (w := w) (base := base) F5 GT b4 k4 m4
  have GN := ok_near (P := l.prog) (w := w) (base := base) F6 y4 GT b4 k4 m4
  have GM := ok_mach (P := l.prog) (w := w) (base := base) F7 y4 y3 GT b4 k4 m4 GC b5 k5 m5 GN b6 k6 m6
  have GRo := ok_row (P := l.prog) (w := w) (base := base) F8 y4 y3 y5 GT b4 k4 m4
  have GRu := ok_run (P := l.prog) (w := w) (mg := mg) (base := base) F1
  have GL := ok_lets (P := l.prog) (w := w) (base := base) F2 y1 GRu b1 k1 m1
  have GRe := ok_reached (P := l.prog) (w := w) (base := base) F3 y1 y3
  have GRi := ok_right (P := l.prog) (w := w) (base := base) F9 GRu b1 k1 m1 GL b2 k2 m2
  exact ok_law F10 y1 y3 GT b4 k4 m4 GM b7 k7 m7 GRo b8 k8 m8 GRu b1 k1 m1 GRe b3 k3 m3 GRi b9 k9 m9
end K05
open PySem PySem.W PyProof.Rows
set_option maxHeartbeats 0 in
theorem PySem.Challenge.cw_opencells_k05_whole_a_row_in_two_holds : PySem.Challenge.rw_opencells_k05_whole_a_row_in_two.Holds := by
  w_on; o_law; k_head; (case hw => w_witness2)
  k_fill
  refine L2.walk_of (l := PySem.Challenge.rw_opencells_k05_whole_a_row_in_two) (n := 63) (k := 4) (x := "_law_script") (CX := fun _ => L2.CX0) (sp := fun w => K05.spLaw _) rfl (by decide) rfl ⟨rfl, by decide, by decide⟩ (fun w h Y => PySem.W.kIn_of Y) ?F (fun _ _ a ns hl _ hS => ⟨a, ns, rfl, hS, fun _ => rfl⟩) (fun _ _ _ _ _ h => h)
  case F =>
    intro w mg fa h KX G hmg
    refine' K05.all_mk KX G hmg ?a1 ?l1 ?c1 ?k1 ?a2 ?l2 ?c2 ?k2 ?a3 ?l3 ?c3 ?k3 ?a4 ?l4 ?c4 ?k4 ?a5 ?l5 ?c5 ?k5 ?a6 ?l6 ?c6 ?k6 ?a7 ?l7 ?c7 ?k7 ?a8 ?l8 ?c8 ?k8 ?a9 ?l9 ?c9 ?k9 ?a10 ?l10 ?c10 ?k10 ?z1 ?z2 ?z3 ?z4 ?z5
    (case a1 => k_is); (case l1 => k_is); (case c1 => k_is); (case k1 => k_is)
    (case a2 => k_is); (case l2 => k_is); (case c2 => k_is); (case k2 => k_is)
    (case a3 => k_is); (case l3 => k_is); (case c3 => k_is); (case k3 => k_is)
    (case a4 => k_is); (case l4 => k_is); (case c4 => k_is); (case k4 => k_is)
    (case a5 => k_is); (case l5 => k_is); (case c5 => k_is); (case k5 => k_is)
    (case a6 => k_is); (case l6 => k_is); (case c6 => k_is); (case k6 => k_is)
    (case a7 => k_is); (case l7 => k_is); (case c7 => k_is); (case k7 => k_is)
    (case a8 => k_is); (case l8 => k_is); (case c8 => k_is); (case k8 => k_is)
    (case a9 => k_is); (case l9 => k_is); (case c9 => k_is); (case k9 => k_is)
    (case a10 => k_is); (case l10 => k_is); (case c10 => k_is); (case k10 => k_is)
    (case z1 => k_is); (case z2 => k_is); (case z3 => k_is); (case z4 => k_is)
    (case z5 => k_is)
