import PyProof.Rows.All
import Wide.All
import OpenK.AllK
import Wide.FinOn
import KE.KStateDown
import HandS.ForMost
import HandS.Defaults
import HandS.Head0
import HandS.Head1
import HandS.Head2
import HandS.HeadEnd
import HandS.HeadHook1
import HandS.HeadHook2
import HandS.HeadHook3
import HandS.HeadHook4
import PySem.Challenge.RW_saidbetween_k79_whole_tables_and_formula
import HandS.Flow
import HandS.IsInst
import HandS.TupAny
import HandS.TupLe
import HandS.Deep
import HandS.Zip
import HandS.Walk
import KE.GoesEnum
import HandS.Ends
import HandS.EndBits
set_option Elab.async false
set_option linter.all false
set_option maxRecDepth 100000
set_option maxHeartbeats 0
namespace Sb
/-! the mathematics: formulas, tables put in, talks; no Python here -/
/-- a formula: a sign (i, v), or two joined (o: "or") -/
inductive Fm where
  | sg (i : Nat) (v : Bool)
  | bin (o : Bool) (a b : Fm)
  deriving Repr, DecidableEq
def b2n (b : Bool) : Nat := if b = true then 1 else 0
def bit (r i : Nat) : Bool := decide (r / 2 ^ i % 2 = 1)
namespace Fm
def mv (k : Nat) : Fm → Fm
  | sg i v => sg (i + k) v
  | bin o a b => bin o (mv k a) (mv k b)
def ng : Fm → Fm
  | sg i v => sg i (!v)
  | bin o a b => bin (!o) (ng a) (ng b)
def put (m : Nat) (g : Fm) : Fm → Fm
  | sg i v => mv (i * m) (if v = true then g else ng g)
  | bin o a b => bin o (put m g a) (put m g b)
def dep : Fm → Nat
  | sg _ _ => 0
  | bin _ a b => 1 + max (dep a) (dep b)
def lvs : Fm → Nat
  | sg _ _ => 1
  | bin _ a b => lvs a + lvs b
def so : Fm → Nat → Bool
  | sg i v, r => decide (bit r i = v)
  | bin o a b, r => if o = true then so a r || so b r else so a r && so b r
def ok (n : Nat) : Fm → Prop
  | sg i _ => i < n
  | bin _ a b => ok n a ∧ ok n b
theorem lvs_pos : ∀ f : Fm, 1 ≤ lvs f
  | sg _ _ => Nat.le_refl _
  | bin _ a _ => Nat.le_trans (lvs_pos a) (Nat.le_add_right _ _)
theorem mv_dep (k : Nat) : ∀ f : Fm, dep (mv k f) = dep f
  | sg _ _ => rfl
  | bin _ a b => by simp only [mv, dep, mv_dep k a, mv_dep k b]
theorem mv_lvs (k : Nat) : ∀ f : Fm, lvs (mv k f) = lvs f
  | sg _ _ => rfl
  | bin _ a b => by simp only [mv, lvs, mv_lvs k a, mv_lvs k b]
theorem ng_dep : ∀ f : Fm, dep (ng f) = dep f
  | sg _ _ => rfl
  | bin _ a b => by simp only [ng, dep, ng_dep a, ng_dep b]
theorem ng_lvs : ∀ f : Fm, lvs (ng f) = lvs f
  | sg _ _ => rfl
  | bin _ a b => by simp only [ng, lvs, ng_lvs a, ng_lvs b]
theorem put_dep (m : Nat) (g : Fm) : ∀ f : Fm, dep (put m g f) = dep f + dep g
  | sg i v => by
    cases v <;> simp [put, mv_dep, ng_dep, dep]
  | bin _ a b => by
    simp only [put, dep, put_dep m g a, put_dep m g b]
    omega
theorem put_lvs (m : Nat) (g : Fm) : ∀ f : Fm, lvs (put m g f) = lvs f * lvs g
  | sg i v => by
    cases v <;> simp [put, mv_lvs, ng_lvs, lvs]
  | bin _ a b => by
    simp only [put, lvs, put_lvs m g a, put_lvs m g b, Nat.add_mul]
theorem mv_ok {n : Nat} (k : Nat) : ∀ f : Fm, ok n f → ok (n + k) (mv k f)
  | sg i _, h => Nat.add_lt_add_right (show i < n from h) k
  | bin _ a b, h => ⟨mv_ok k a h.1, mv_ok k b h.2⟩
theorem ok_mono {n n' : Nat} (h : n ≤ n') : ∀ f : Fm, ok n f → ok n' f
  | sg _ _, q => Nat.lt_of_lt_of_le q h
  | bin _ a b, q => ⟨ok_mono h a q.1, ok_mono h b q.2⟩
theorem ng_ok {n : Nat} : ∀ f : Fm, ok n f → ok n (ng f)
  | sg _ _, h => h
  | bin _ a b, h => ⟨ng_ok a h.1, ng_ok b h.2⟩
theorem put_ok {n m : Nat} (g : Fm) (hg : ok m g) : ∀ f : Fm, ok n f → ok (n * m) (put m g f)
  | sg i v, h => by
    have h1 : i + 1 ≤ n := h
    have h2 : (i + 1) * m ≤ n * m := Nat.mul_le_mul_right m h1
    have h3 : m + i * m ≤ n * m := by rw [Nat.add_mul, Nat.one_mul] at h2; omega
    refine ok_mono h3 _ (mv_ok _ _ ?_)
    cases v with
    | true => exact hg
    | false => exact ng_ok g hg
  | bin _ a b, h => ⟨put_ok g hg a h.1, put_ok g hg b h.2⟩
theorem bit_add (r i k : Nat) : bit r (i + k) = bit (r / 2 ^ k) i := by
  unfold bit
  rw [Nat.div_div_eq_div_mul, ← Nat.pow_add, Nat.add_comm k i]
theorem bit_mod {r i m : Nat} (h : i < m) : bit (r % 2 ^ m) i = bit r i := by
  unfold bit
  have e : 2 ^ m = 2 ^ i * 2 ^ (m - i) := by rw [← Nat.pow_add]; congr 1; omega
  have e2 : 2 ^ (m - i) = 2 * 2 ^ (m - i - 1) := by
    rw [← Nat.pow_succ']; congr 1; omega
  rw [e, Nat.mod_mul_right_div_self, e2, Nat.mod_mul_right_mod]
theorem so_mv (k : Nat) : ∀ (f : Fm) (r : Nat), so (mv k f) r = so f (r / 2 ^ k)
  | sg i v, r => by simp only [mv, so, bit_add]
  | bin _ a b, r => by simp only [mv, so, so_mv k a, so_mv k b]
theorem so_ng : ∀ (f : Fm) (r : Nat), so (ng f) r = !so f r
  | sg i v, r => by
    simp only [ng, so]
    cases bit r i <;> cases v <;> rfl
  | bin o a b, r => by
    simp only [ng, so, so_ng a, so_ng b]
    cases o <;> cases so a r <;> cases so b r <;> rfl
theorem so_mod {m : Nat} : ∀ (f : Fm) (r : Nat), ok m f → so f (r % 2 ^ m) = so f r
  | sg i v, r, h => by simp only [so, bit_mod (show i < m from h)]
  | bin _ a b, r, h => by simp only [so, so_mod a r h.1, so_mod b r h.2]
end Fm

/-! blocks, sums -/
def blk (m j r : Nat) : Nat := r / 2 ^ (j * m) % 2 ^ m
def sumTo (f : Nat → Nat) : Nat → Nat
  | 0 => 0
  | k + 1 => sumTo f k + f k
theorem sumTo_congr {f g : Nat → Nat} : ∀ {n : Nat}, (∀ j, j < n → f j = g j) → sumTo f n = sumTo g n
  | 0, _ => rfl
  | n + 1, h => by
    show sumTo f n + f n = sumTo g n + g n
    rw [sumTo_congr (fun j hj => h j (Nat.lt_succ_of_lt hj)), h n (Nat.lt_succ_self n)]
/-- a number by its bits -/
def ofB (B : Nat → Bool) (n : Nat) : Nat := sumTo (fun j => b2n (B j) * 2 ^ j) n
theorem b2n_le (b : Bool) : b2n b ≤ 1 := by cases b <;> decide
theorem ofB_lt (B : Nat → Bool) : ∀ n, ofB B n < 2 ^ n
  | 0 => by show 0 < 2 ^ 0; decide
  | n + 1 => by
    have ih := ofB_lt B n
    have h1 : b2n (B n) * 2 ^ n ≤ 1 * 2 ^ n := Nat.mul_le_mul_right _ (b2n_le _)
    have e : ofB B (n + 1) = ofB B n + b2n (B n) * 2 ^ n := rfl
    rw [e, Nat.pow_succ]
    omega
theorem bit_ofB (B : Nat → Bool) : ∀ n i, i < n → bit (ofB B n) i = B i
  | 0, i, h => absurd h (Nat.not_lt_zero i)
  | n + 1, i, h => by
    have e : ofB B (n + 1) = ofB B n + b2n (B n) * 2 ^ n := rfl
    by_cases hi : i = n
    · subst hi
      have hl := ofB_lt B i
      unfold bit
      rw [e, Nat.add_mul_div_right _ _ (Nat.two_pow_pos i), Nat.div_eq_of_lt hl, Nat.zero_add]
      cases B i <;> rfl
    · have hin : i < n := by omega
      rw [← bit_ofB B n i hin, ← Fm.bit_mod hin, e, Nat.add_mul_mod_self_right, Fm.bit_mod hin]
/-- a row's bits make the row -/
theorem ofB_bit (r : Nat) : ∀ n, sumTo (fun j => r / 2 ^ j % 2 * 2 ^ j) n = r % 2 ^ n
  | 0 => by show 0 = r % 1; omega
  | n + 1 => by
    show sumTo (fun j => r / 2 ^ j % 2 * 2 ^ j) n + r / 2 ^ n % 2 * 2 ^ n = r % 2 ^ (n + 1)
    rw [ofB_bit r n, Nat.pow_succ, Nat.mod_mul, Nat.mul_comm (2 ^ n) (r / 2 ^ n % 2)]
/-- the row of the blocks' values -/
def tot (n m : Nat) (B : Nat → Bool) (r : Nat) : Nat := ofB (fun j => B (blk m j r)) n
theorem put_so {n m : Nat} (g : Fm) (hg : Fm.ok m g) : ∀ (f : Fm) (r : Nat), Fm.ok n f → Fm.so (Fm.put m g f) r = Fm.so f (tot n m (Fm.so g) r)
  | .sg i v, r, h => by
    have hb : bit (tot n m (Fm.so g) r) i = Fm.so g (blk m i r) := bit_ofB _ n i h
    have e : Fm.so g (r / 2 ^ (i * m)) = Fm.so g (blk m i r) := (Fm.so_mod g _ hg).symm
    show Fm.so (Fm.mv (i * m) (if v = true then g else Fm.ng g)) r = decide (bit (tot n m (Fm.so g) r) i = v)
    rw [hb, Fm.so_mv]
    cases v with
    | true =>
      rw [if_pos rfl, e]
      cases Fm.so g (blk m i r) <;> rfl
    | false =>
      rw [if_neg Bool.false_ne_true, Fm.so_ng, e]
      cases Fm.so g (blk m i r) <;> rfl
  | .bin o a b, r, h => by
    show (if o = true then _ else _) = (if o = true then _ else _)
    rw [put_so g hg a r h.1, put_so g hg b r h.2]
theorem so_congr {n : Nat} {r r' : Nat} (e : ∀ i, i < n → bit r i = bit r' i) : ∀ f : Fm, Fm.ok n f → Fm.so f r = Fm.so f r'
  | .sg i v, h => by simp only [Fm.so, e i h]
  | .bin o a b, h => by simp only [Fm.so, so_congr e a h.1, so_congr e b h.2]
theorem blk_lt (m j r : Nat) : blk m j r < 2 ^ m := Nat.mod_lt _ (Nat.two_pow_pos m)
theorem tot_lt (n m : Nat) (B : Nat → Bool) (r : Nat) : tot n m B r < 2 ^ n := ofB_lt _ n
theorem tot_congr {n m : Nat} {B B' : Nat → Bool} (r : Nat) (h : ∀ k, k < 2 ^ m → B k = B' k) : tot n m B r = tot n m B' r := by
  unfold tot ofB
  exact sumTo_congr fun j _ => by
    show b2n (B (blk m j r)) * 2 ^ j = b2n (B' (blk m j r)) * 2 ^ j
    rw [h _ (blk_lt m j r)]
/-! tables -/
def at_ (A : List Bool) (k : Nat) : Bool := A.getD k false
/-- the values of the table put in -/
def tin (n : Nat) (A : List Bool) (m : Nat) (B : List Bool) : List Bool := (List.range (2 ^ (n * m))).map fun r => at_ A (tot n m (at_ B) r)
theorem tin_length (n : Nat) (A : List Bool) (m : Nat) (B : List Bool) : (tin n A m B).length = 2 ^ (n * m) := by
  unfold tin
  rw [List.length_map, List.length_range]
theorem tin_at {n : Nat} {A : List Bool} {m : Nat} {B : List Bool} {r : Nat} (h : r < 2 ^ (n * m)) : (tin n A m B)[r]? = some (at_ A (tot n m (at_ B) r)) := by
  unfold tin
  rw [List.getElem?_map, List.getElem?_range h]
  rfl
/-- a formula's table -/
def tabF (n : Nat) (f : Fm) : List Bool := (List.range (2 ^ n)).map f.so
theorem tabF_length (n : Nat) (f : Fm) : (tabF n f).length = 2 ^ n := by
  unfold tabF
  rw [List.length_map, List.length_range]
theorem at_tabF {n : Nat} {f : Fm} {k : Nat} (h : k < 2 ^ n) : at_ (tabF n f) k = f.so k := by
  unfold at_ tabF
  rw [List.getD_eq_getElem?_getD, List.getElem?_map, List.getElem?_range h]
  rfl
/-- the formula put in is so of a row exactly if the table of both says so -/
theorem put_tab {n m : Nat} {f g : Fm} (hf : Fm.ok n f) (hg : Fm.ok m g) (r : Nat) : at_ (tabF n f) (tot n m (at_ (tabF m g)) r) = Fm.so (Fm.put m g f) r := by
  rw [put_so g hg f r hf, at_tabF (tot_lt _ _ _ _)]
  rw [tot_congr r fun k hk => at_tabF hk]
/-- formulas for two tables are put together one for the table put in -/
theorem put_both {n m : Nat} {f g : Fm} {A B : List Bool} (hf : Fm.ok n f) (hg : Fm.ok m g) (ha : ∀ k, k < 2 ^ n → f.so k = at_ A k) (hb : ∀ k, k < 2 ^ m → g.so k = at_ B k) (r : Nat) :
    Fm.so (Fm.put m g f) r = at_ A (tot n m (at_ B) r) := by
  rw [put_so g hg f r hf, tot_congr r hb, ha _ (tot_lt _ _ _ _)]
end Sb


namespace Sb
open PySem PySem.Spec
open PyProof.Rows L2
def top (i : Nat) : Stmt := PySem.Challenge.pw_saidbetween_k79_whole_tables_and_formula.main.body.getD i (.Pass ⟨0, 0, 0, 0⟩)
def dOf (x : Str) (s : Stmt) : He.DefD := ⟨(x, none), x, x, defArgs s, defBody s, defScope s, [], []⟩
abbrev s_is_from : Stmt := top 10
abbrev s_is_set : Stmt := top 11
abbrev s_is_sign : Stmt := top 12
abbrev s_check_many : Stmt := top 13
abbrev s_wrong_sign : Stmt := top 14
abbrev s_check_question : Stmt := top 15
abbrev s_check_row : Stmt := top 16
abbrev s_bit_so : Stmt := top 17
abbrev s_is_so : Stmt := top 18
abbrev s_turned_sign : Stmt := top 19
abbrev s_is_joined : Stmt := top 24
abbrev s_check_formula : Stmt := top 25
abbrev s_value_so : Stmt := top 26
abbrev s_depth_so : Stmt := top 27
abbrev s_leaves_so : Stmt := top 28
abbrev s_negated_so : Stmt := top 29
abbrev s_need_formula : Stmt := top 30
abbrev s_value_of : Stmt := top 31
abbrev s_depth_of : Stmt := top 32
abbrev s_leaves_of : Stmt := top 33
abbrev s_check_one : Stmt := top 38
abbrev s_check_together : Stmt := top 39
abbrev s_check_both : Stmt := top 40
abbrev s_block_so : Stmt := top 41
abbrev s_put_in_so : Stmt := top 42
abbrev s_signs_of : Stmt := top 43
abbrev s_check_plain : Stmt := top 44
abbrev s_moved_so : Stmt := top 45
abbrev s_put_formula_so : Stmt := top 46
abbrev s_put_in : Stmt := top 47
abbrev s_put_formula : Stmt := top 48
abbrev s_law_mixed : Stmt := top 50
abbrev s_law_begin : Stmt := top 51
abbrev s_law_draw : Stmt := top 52
abbrev s_law_leaves : Stmt := top 53
abbrev s_law_of : Stmt := top 54
abbrev s_law_part : Stmt := top 55
abbrev s_law_power : Stmt := top 56
abbrev s_law_bits_of : Stmt := top 57
abbrev s_law_all_signs : Stmt := top 58
abbrev s_law_is_so : Stmt := top 59
abbrev s_law_parted : Stmt := top 60
abbrev s_law_first_sign : Stmt := top 61
abbrev s_law_worths : Stmt := top 62
abbrev s_law_made : Stmt := top 63
abbrev s_law_worth : Stmt := top 64
abbrev s_law_any_talk : Stmt := top 65
abbrev s_law_put_values : Stmt := top 66
abbrev s_law_tables : Stmt := top 67
abbrev s_law_like : Stmt := top 68
abbrev s_law_moved : Stmt := top 69
abbrev s_law_put : Stmt := top 70
abbrev s_law_told : Stmt := top 71
abbrev s_law_as_formula : Stmt := top 72
abbrev s_law_both_right : Stmt := top 73
abbrev s_law_right : Stmt := top 74
abbrev s_law : Stmt := top 75
def dfs : List He.DefD := [
  dOf "is_from" s_is_from,
  dOf "is_set" s_is_set,
  dOf "is_sign" s_is_sign,
  dOf "check_many" s_check_many,
  dOf "wrong_sign" s_wrong_sign,
  dOf "check_question" s_check_question,
  dOf "check_row" s_check_row,
  dOf "bit_so" s_bit_so,
  dOf "is_so" s_is_so,
  dOf "turned_sign" s_turned_sign,
  dOf "is_joined" s_is_joined,
  dOf "check_formula" s_check_formula,
  dOf "value_so" s_value_so,
  dOf "depth_so" s_depth_so,
  dOf "leaves_so" s_leaves_so,
  dOf "negated_so" s_negated_so,
  dOf "need_formula" s_need_formula,
  dOf "value_of" s_value_of,
  dOf "depth_of" s_depth_of,
  dOf "leaves_of" s_leaves_of,
  dOf "check_one" s_check_one,
  dOf "check_together" s_check_together,
  dOf "check_both" s_check_both,
  dOf "block_so" s_block_so,
  dOf "put_in_so" s_put_in_so,
  dOf "signs_of" s_signs_of,
  dOf "check_plain" s_check_plain,
  dOf "moved_so" s_moved_so,
  dOf "put_formula_so" s_put_formula_so,
  dOf "put_in" s_put_in,
  dOf "put_formula" s_put_formula,
  dOf "_law_mixed" s_law_mixed,
  dOf "_law_begin" s_law_begin,
  dOf "_law_draw" s_law_draw,
  dOf "_law_leaves" s_law_leaves,
  dOf "_law_of" s_law_of,
  dOf "_law_part" s_law_part,
  dOf "_law_power" s_law_power,
  dOf "_law_bits_of" s_law_bits_of,
  dOf "_law_all_signs" s_law_all_signs,
  dOf "_law_is_so" s_law_is_so,
  dOf "_law_parted" s_law_parted,
  dOf "_law_first_sign" s_law_first_sign,
  dOf "_law_worths" s_law_worths,
  dOf "_law_made" s_law_made,
  dOf "_law_worth" s_law_worth,
  dOf "_law_any_talk" s_law_any_talk,
  dOf "_law_put_values" s_law_put_values,
  dOf "_law_tables" s_law_tables,
  dOf "_law_like" s_law_like,
  dOf "_law_moved" s_law_moved,
  dOf "_law_put" s_law_put,
  dOf "_law_told" s_law_told,
  dOf "_law_as_formula" s_law_as_formula,
  dOf "_law_both_right" s_law_both_right,
  dOf "_law_right" s_law_right,
  dOf "law" s_law]
def nm0 : List PySem.Str := ["SaidError", "BadQuestion", "BadFormula", "BadTable", "BadParameter", "TooGreat", "MOST_MANY_questions", "TWOS", "is_from", "is_set", "is_sign", "check_many"]
def nm1 : List PySem.Str := ["wrong_sign", "check_question", "check_row", "bit_so", "is_so", "turned_sign", "MOST_THINGS_formulas", "MOST_DEPTH_formulas", "WORDS", "is_joined", "check_formula", "value_so"]
def nm2 : List PySem.Str := ["depth_so", "leaves_so", "negated_so", "need_formula", "value_of", "depth_of", "leaves_of", "MOST_MANY_inside", "MOST_THINGS_inside", "MOST_DEPTH_inside", "check_one", "check_together"]
def nm3 : List PySem.Str := ["check_both", "block_so", "put_in_so", "signs_of", "check_plain", "moved_so", "put_formula_so", "put_in", "put_formula", "_law_mixed", "_law_begin", "_law_draw"]
def nm4 : List PySem.Str := ["_law_leaves", "_law_of", "_law_part", "_law_power", "_law_bits_of", "_law_all_signs", "_law_is_so", "_law_parted", "_law_first_sign", "_law_worths", "_law_made", "_law_worth"]
def nm5 : List PySem.Str := ["_law_any_talk", "_law_put_values", "_law_tables", "_law_like", "_law_moved", "_law_put", "_law_told", "_law_as_formula", "_law_both_right", "_law_right"]
def nms : List PySem.Str := nm0 ++ nm1 ++ nm2 ++ nm3 ++ nm4 ++ nm5

def fcs : List He.Fa := dfs.map (fun d => He.Fa.glo d.name) ++ [.free "len", .free "range", .free "tuple", .free "list", .free "int", .free "str", .free "bool", .free "isinstance", .free "enumerate", .free "zip", .free "sum", .free "max", .free "min", .free "repr",
  .int "MOST_MANY_questions" 8, .int "MOST_THINGS_formulas" 400, .int "MOST_DEPTH_formulas" 60, .int "MOST_MANY_inside" 8, .int "MOST_THINGS_inside" 400, .int "MOST_DEPTH_inside" 60, .glo "TWOS", .glo "WORDS"]
def twos : List Int := [1, 2, 4, 8, 16, 32, 64, 128, 256, 512, 1024, 2048, 4096, 8192, 16384, 32768, 65536, 131072, 262144, 524288, 1048576]
def exs (K : PySem.W.Frag) : Bool := He.tupB K "TWOS" (twos.map He.Dv.int) && He.tupB K "WORDS" [.str "or", .str "and"]
abbrev Rw : PySem.W.OpenRow := PySem.W.OpenLaw.row PySem.Challenge.rw_saidbetween_k79_whole_tables_and_formula
abbrev hk : PySem.W.Hook := He.hookX 2 fcs dfs [] [] exs
def ob (s : PySem.W.SharedT) : He.AlX := He.obsX 2 fcs dfs [] [] exs (HandSHeadRun.getT s)
theorem ob_eq (s : PySem.W.SharedT) : ob s = hk.obs s.abs := He.obsX_eq (HandSHeadRun.getT_eq s)
theorem run (w : World) : HandSHeadRun.RunEq Rw (PySem.W.view Rw.prog [75]) hk ob 6000 nms w := by
  intro os
  kernel_rfl
end Sb


namespace Sb
open PySem PySem.Spec
open PyProof.Rows L2

/-! ### tuples that are tracked, as data -/
mutual
/-- the value v is the data d; all tuples in it are tracked -/
inductive Tp (H : Hp) : V → PyData → Prop
  | bl (b : Bool) : Tp H (.bl b) (.bool b)
  | int (i : Int) : Tp H (.int i) (.int i)
  | str (x : Str) : Tp H (.str x) (.str x)
  | tup {a : Addr} {xs : List V} {ds : List PyData} : H a = some (.tup xs) → TpAll H xs ds → Tp H (.ref a) (.tuple ds)
inductive TpAll (H : Hp) : List V → List PyData → Prop
  | nil : TpAll H [] []
  | cons {v : V} {vs : List V} {d : PyData} {ds : List PyData} : Tp H v d → TpAll H vs ds → TpAll H (v :: vs) (d :: ds)
end
/-- all tuples are kept -/
def KT (H H' : Hp) : Prop := ∀ b xs, H b = some (.tup xs) → H' b = some (.tup xs)
theorem KT.refl (H : Hp) : KT H H := fun _ _ e => e
theorem KT.trans {H H1 H2 : Hp} (a : KT H H1) (b : KT H1 H2) : KT H H2 := fun c xs e => b c xs (a c xs e)
theorem kt {H H' : Hp} (e : Same H H') : KT H H' := fun b _ h => e b _ h
section
variable {H H' : Hp}
mutual
theorem Tp.mono (k : KT H H') : ∀ (d : PyData) (v : V), Tp H v d → Tp H' v d
  | .bool _, _, h => by cases h; exact .bl _
  | .int _, _, h => by cases h; exact .int _
  | .str _, _, h => by cases h; exact .str _
  | .tuple ds, _, h => by
    cases h with
    | tup e a => exact .tup (k _ _ e) (TpAll.mono k ds _ a)
  | .none, _, h => by cases h
  | .list _, _, h => by cases h
  | .dict _, _, h => by cases h
theorem TpAll.mono (k : KT H H') : ∀ (ds : List PyData) (vs : List V), TpAll H vs ds → TpAll H' vs ds
  | [], _, h => by cases h; exact .nil
  | d :: ds, _, h => by
    cases h with
    | cons a b => exact .cons (Tp.mono k d _ a) (TpAll.mono k ds _ b)
end
theorem tp (k : KT H H') {d : PyData} {v : V} (h : Tp H v d) : Tp H' v d := Tp.mono k d v h
theorem tpS (k : Same H H') {d : PyData} {v : V} (h : Tp H v d) : Tp H' v d := Tp.mono (kt k) d v h
theorem tpsS (k : Same H H') {ds : List PyData} {vs : List V} (h : TpAll H vs ds) : TpAll H' vs ds := TpAll.mono (kt k) ds vs h
mutual
theorem Tp.dp {K : PySem.W.Frag} : ∀ (d : PyData) (v : V), Tp H v d → Dp K H v d
  | .bool _, _, h => by cases h; exact .bl _
  | .int _, _, h => by cases h; exact .int _
  | .str _, _, h => by cases h; exact .str _
  | .tuple ds, _, h => by
    cases h with
    | tup e a => exact .tup (SqT.of e) (TpAll.dp ds _ a)
  | .none, _, h => by cases h
  | .list _, _, h => by cases h
  | .dict _, _, h => by cases h
theorem TpAll.dp {K : PySem.W.Frag} : ∀ (ds : List PyData) (vs : List V), TpAll H vs ds → DpAll K H vs ds
  | [], _, h => by cases h; exact .nil
  | d :: ds, _, h => by
    cases h with
    | cons a b => exact .cons (Tp.dp d _ a) (TpAll.dp ds _ b)
end
theorem dp {K : PySem.W.Frag} {d : PyData} {v : V} (h : Tp H v d) : Dp K H v d := Tp.dp d v h
theorem TpAll.length : ∀ {vs : List V} {ds : List PyData}, TpAll H vs ds → vs.length = ds.length
  | _, _, .nil => rfl
  | _, _, .cons _ h => congrArg Nat.succ h.length
theorem TpAll.get : ∀ {vs : List V} {ds : List PyData} {i : Nat} {d : PyData}, TpAll H vs ds → ds[i]? = some d → ∃ v, vs[i]? = some v ∧ Tp H v d
  | _, _, _, _, .nil, e => by simp at e
  | _, _, 0, _, .cons r _, e => by simp at e; subst e; exact ⟨_, rfl, r⟩
  | _, _, i + 1, x, .cons _ t, e => by
    obtain ⟨u, h1, h2⟩ := TpAll.get (i := i) (d := x) t (by simpa using e)
    exact ⟨u, by simpa using h1, h2⟩
theorem TpAll.get' : ∀ {vs : List V} {ds : List PyData} {i : Nat} {v : V}, TpAll H vs ds → vs[i]? = some v → ∃ d, ds[i]? = some d ∧ Tp H v d
  | _, _, _, _, .nil, e => by simp at e
  | _, _, 0, _, .cons r _, e => by simp at e; subst e; exact ⟨_, rfl, r⟩
  | _, _, i + 1, x, .cons _ t, e => by
    obtain ⟨u, h1, h2⟩ := TpAll.get' (i := i) (v := x) t (by simpa using e)
    exact ⟨u, by simpa using h1, h2⟩
theorem TpAll.app : ∀ {vs us : List V} {ds es : List PyData}, TpAll H vs ds → TpAll H us es → TpAll H (vs ++ us) (ds ++ es)
  | _, _, _, _, .nil, h => h
  | _, _, _, _, .cons a b, h => .cons a (TpAll.app b h)
theorem TpAll.of_get : ∀ {vs : List V} {ds : List PyData}, vs.length = ds.length → (∀ (i : Nat) v d, vs[i]? = some v → ds[i]? = some d → Tp H v d) → TpAll H vs ds
  | [], [], _, _ => .nil
  | [], _ :: _, h, _ => by cases h
  | _ :: _, [], h, _ => by cases h
  | v :: vs, d :: ds, h, g => .cons (g 0 v d rfl rfl) (TpAll.of_get (Nat.succ.inj h) fun i v' d' e1 e2 => g (i + 1) v' d' (by simpa using e1) (by simpa using e2))
theorem tpInts : ∀ ns : List Int, TpAll H (ns.map V.int) (ns.map PyData.int)
  | [] => .nil
  | n :: r => .cons (.int n) (tpInts r)
theorem ofInts : ∀ {ns : List Int} {vs : List V}, TpAll H vs (ns.map PyData.int) → vs = ns.map V.int
  | [], _, h => by cases h; rfl
  | n :: r, _, h => by
    cases h with
    | cons a b =>
      cases a
      rw [ofInts b] <;> rfl
theorem Tp.intE {v : V} {i : Int} (h : Tp H v (.int i)) : v = .int i := by cases h; rfl
theorem Tp.strE {v : V} {x : Str} (h : Tp H v (.str x)) : v = .str x := by cases h; rfl
theorem Tp.tupE {v : V} {ds : List PyData} (h : Tp H v (.tuple ds)) : ∃ a xs, v = .ref a ∧ H a = some (.tup xs) ∧ TpAll H xs ds := by
  cases h with
  | tup e a => exact ⟨_, _, rfl, e, a⟩
theorem Tp.two {v : V} {d e : PyData} (h : Tp H v (.tuple [d, e])) : ∃ a x y, v = .ref a ∧ H a = some (.tup [x, y]) ∧ Tp H x d ∧ Tp H y e := by
  obtain ⟨a, xs, rfl, ha, h⟩ := h.tupE
  cases h with
  | cons h1 h =>
    cases h with
    | cons h2 h =>
      cases h
      exact ⟨a, _, _, rfl, ha, h1, h2⟩
theorem Tp.three {v : V} {d e f : PyData} (h : Tp H v (.tuple [d, e, f])) : ∃ a x y z, v = .ref a ∧ H a = some (.tup [x, y, z]) ∧ Tp H x d ∧ Tp H y e ∧ Tp H z f := by
  obtain ⟨a, xs, rfl, ha, h⟩ := h.tupE
  cases h with
  | cons h1 h =>
    cases h with
    | cons h2 h =>
      cases h with
      | cons h3 h =>
        cases h
        exact ⟨a, _, _, _, rfl, ha, h1, h2, h3⟩
theorem Tp.four {v : V} {d e f g : PyData} (h : Tp H v (.tuple [d, e, f, g])) : ∃ a x y z u, v = .ref a ∧ H a = some (.tup [x, y, z, u]) ∧ Tp H x d ∧ Tp H y e ∧ Tp H z f ∧ Tp H u g := by
  obtain ⟨a, xs, rfl, ha, h⟩ := h.tupE
  cases h with
  | cons h1 h =>
    cases h with
    | cons h2 h =>
      cases h with
      | cons h3 h =>
        cases h with
        | cons h4 h =>
          cases h
          exact ⟨a, _, _, _, _, rfl, ha, h1, h2, h3, h4⟩
end

/-! ### heaps -/
theorem sNew {H : Hp} {p : Addr} {o : HO} (h : H p = none) : Same H (upd H p o) := fun b u q => by rw [upd_ne (ne_of_none q h)]; exact q
/-- all but two objects are kept -/
def Kp (d l : Addr) (H H' : Hp) : Prop := ∀ b o, H b = some o → b ≠ d → b ≠ l → H' b = some o
theorem Kp.refl (d l : Addr) (H : Hp) : Kp d l H H := fun _ _ e _ _ => e
theorem Kp.trans {d l : Addr} {H H1 H2 : Hp} (a : Kp d l H H1) (b : Kp d l H1 H2) : Kp d l H H2 := fun c o h n1 n2 => b c o (a c o h n1 n2) n1 n2
theorem kp {d l : Addr} {H H' : Hp} (e : Same H H') : Kp d l H H' := fun b o h _ _ => e b o h

/-! ### the data of the program -/
def wd (o : Bool) : Str := if o = true then "or" else "and"
/-- a sign, a formula -/
def dS (i : Nat) (v : Bool) : PyData := .tuple [.int (i : Int), .int (b2n v : Int)]
def dF : Fm → PyData
  | .sg i v => dS i v
  | .bin o a b => .tuple [.str (wd o), dF a, dF b]
/-- zeros and ones -/
def zo (A : List Bool) : List Int := A.map fun b => (b2n b : Int)
def nats (A : List Nat) : List Int := A.map fun (n : Nat) => (n : Int)
def dI (ns : List Int) : PyData := .tuple (ns.map .int)
/-- a table -/
def dT (n : Nat) (A : List Bool) : PyData := .tuple [.int (n : Int), dI (zo A)]
/-- all signs of so many bits -/
def sgs (n : Nat) : List (Nat × Bool) := (List.range (2 * n)).map fun k => (k / 2, decide (k % 2 = 1))
def dSs (l : List (Nat × Bool)) : PyData := .tuple (l.map fun p => dS p.1 p.2)
/-- a question -/
def dQ (n : Nat) (yes no : List Int) : PyData := .tuple [.int (n : Int), dSs (sgs n), dI yes, dI no]

/-! ### the top's facts -/
structure Top (K : PySem.W.Frag) (mg : Str → Option Value) : Prop where
  fn : ∀ (i : Nat) (d : He.DefD), dfs[i]? = some d → mg d.name = some (.ref (He.fAd K d.at_)) ∧ ∃ fd, FunD K d.name d.qual d.params d.body d.scope (d.dvs K) (d.kws K) (He.fAd K d.at_) fd
  len : mg "len" = none
  range : mg "range" = none
  tuple : mg "tuple" = none
  list : mg "list" = none
  int : mg "int" = none
  str : mg "str" = none
  bool : mg "bool" = none
  isinstance : mg "isinstance" = none
  enumerate : mg "enumerate" = none
  zip : mg "zip" = none
  sum : mg "sum" = none
  max : mg "max" = none
  min : mg "min" = none
  repr : mg "repr" = none
  mq : ∃ t, mg "MOST_MANY_questions" = some (.int 8 t)
  tf : ∃ t, mg "MOST_THINGS_formulas" = some (.int 400 t)
  df : ∃ t, mg "MOST_DEPTH_formulas" = some (.int 60 t)
  mi : ∃ t, mg "MOST_MANY_inside" = some (.int 8 t)
  ti : ∃ t, mg "MOST_THINGS_inside" = some (.int 400 t)
  di : ∃ t, mg "MOST_DEPTH_inside" = some (.int 60 t)
  twos : ∃ a, mg "TWOS" = some (.ref a) ∧ ∀ H, SqT K H a (twos.map V.int)
  words : ∃ a, mg "WORDS" = some (.ref a) ∧ ∀ H, SqT K H a [.str "or", .str "and"]

theorem Top.at_ {K : PySem.W.Frag} {mg : Str → Option Value} (T : Top K mg) {x : Str} {st : Stmt} (i : Nat) (h : dfs[i]? = some (dOf x st) := by rfl) :
    mg x = some (.ref (He.ga K x)) ∧ ∃ fd, FunD K x x (defArgs st) (defBody st) (defScope st) [] [] (He.ga K x) fd := T.fn i _ h

/-! ### a def by its name -/
/-- the def of the top by this name keeps the promise, by at most so many levels of calls -/
structure Ok (P : Program) (w : World) (K : PySem.W.Frag) (mg : Str → Option Value) (base : Heap) (k : Nat) (x : Str) (ps : List Str) (sp : Sp) : Prop where
  ex : ∃ (f : Addr) (fd : FuncData), mg x = some (.ref f) ∧ PySem.W.keepIn K (.ref f) = true ∧ (Binds K fd ps [] ∧ ∃ oc od osl, K.lookup f = some ⟨oc, od, .func fd, osl⟩) ∧ FnOk P w K mg base CX0 k f fd ps sp
section
variable {P : Program} {w : World} {K : PySem.W.Frag} {mg : Str → Option Value} {base : Heap}
theorem lk_of {x qual : Str} {params : Arguments} {body : List Stmt} {scope : Scope} {dvs : List V} {kws : List (Str × V)} {f : Addr} {fd : FuncData} (F : FunD K x qual params body scope dvs kws f fd) : ∃ oc od osl, K.lookup f = some ⟨oc, od, .func fd, osl⟩ := by
  obtain ⟨oc, od, dV, kV, doc, pm, an, cdv, ct, osl, _, lk, _⟩ := F.ex
  exact ⟨oc, od, osl, lk⟩
theorem Ok.mono {j k : Nat} {x : Str} {ps : List Str} {sp : Sp} (G : Ok P w K mg base j x ps sp) (h : j ≤ k) : Ok P w K mg base k x ps sp := by
  obtain ⟨f, fd, h1, h2, h3, F⟩ := G.ex
  exact ⟨f, fd, h1, h2, h3, F.mono h⟩
theorem Ok.imp {k : Nat} {x : Str} {ps : List Str} {sp sp' : Sp} (G : Ok P w K mg base k x ps sp) (h : ∀ vs H Q E, sp' vs H Q E → sp vs H Q E) : Ok P w K mg base k x ps sp' := by
  obtain ⟨f, fd, h1, h2, h3, F⟩ := G.ex
  exact ⟨f, fd, h1, h2, h3, F.imp h⟩
/-- a call by name -/
theorem pc {X : Cx} {j k : Nat} {x : Str} {ps : List Str} {sp : Sp} {p pos : Pos} {e : Expr} {es : List Expr} {t : TA} (G : Ok X.prog X.w X.K X.mg X.base j x ps sp) (hr : Room k X.A) (ha : PA X (e :: es) t) (hj : j ≤ k := by first | decide | omega)
    (hg : Gl X x := by rfl) (hdb : (x == ("__debug__" : Str)) = false := by decide) (he : starEach (e :: es) X.env = (false, eval e X.env) :: starEach es X.env := by rfl) (hpl : (backTo pos (starEach es X.env)).any (·.1) = false := by rfl) :
    PE X (.Call (.Name x p) (e :: es) [] pos) (tCall sp [] E0 t) := by
  obtain ⟨f, fd, hm, hk, hb, F⟩ := G.ex
  exact pe_call F (hr.mono hj) hg hm hk hb.1 .nil pass0 ha hdb he hpl
/-- a def of the top by its body -/
theorem mk {st : Stmt} {x : Str} {f : Addr} {N ps : List Str} {k : Nat} {sp : Sp} (T : mg x = some (.ref f) ∧ ∃ fd, FunD K x x (defArgs st) (defBody st) (defScope st) [] [] f fd) (S : FnScope N ps (defScope st))
    (hb : ∀ (kV doc pm : Value) (an : Option Addr) (cdv ct : Value) (us : List Value), us.length = ps.length → bindArgs (PySem.W.fnOf x x (defArgs st) (defBody st) (defScope st) .none kV doc pm an cdv ct) ⟨us, []⟩ = pure (ps.zip us))
    (len : ∀ vs H Q E, sp vs H Q E → vs.length = ps.length)
    (body : ∀ (cdv : Value) (A : Around) (outer : List Env) (s : Shared) (H : Hp) (vs : List V) (Q : VK) (E : XK), Room k (A.deeper (envOfC x (defScope st) s.heap.objs.size f cdv)) → sp vs H Q E →
      ∃ t, PSs (cxOf CX0 P w K mg base N x (defScope st) f cdv A outer s H E).nox (defBody st) t ∧ t { nx := fun _ H' => Q .non H', rt := Q } (start N vs) H) : Ok P w K mg base (k + 1) x ps sp := by
  obtain ⟨hm, fd, F⟩ := T
  refine ⟨f, fd, hm, F.kp, ⟨F.bindsN hb, lk_of F⟩, F.ok S len fun cdv A outer s H vs Q E hr h => ?_⟩
  obtain ⟨t, h1, h2⟩ := body cdv A outer s H vs Q E hr h
  exact ⟨t, h1.nox, h2⟩
/-- nothing is asked: any level will do -/
theorem Ok.never {x : Str} {ps : List Str} {sp : Sp} {f : Addr} {st : Stmt} (T : mg x = some (.ref f) ∧ ∃ fd, FunD K x x (defArgs st) (defBody st) (defScope st) [] [] f fd)
    (hb : ∀ (kV doc pm : Value) (an : Option Addr) (cdv ct : Value) (us : List Value), us.length = ps.length → bindArgs (PySem.W.fnOf x x (defArgs st) (defBody st) (defScope st) .none kV doc pm an cdv ct) ⟨us, []⟩ = pure (ps.zip us))
    (no : ∀ vs H Q E, ¬ sp vs H Q E) : Ok P w K mg base 0 x ps sp := by
  obtain ⟨hm, fd, F⟩ := T
  exact ⟨f, fd, hm, F.kp, ⟨F.bindsN hb, lk_of F⟩, ⟨fun vs H Q E h => absurd h (no vs H Q E), fun A outer s H args us vs Q E _ _ _ _ h => absurd h (no vs H Q E)⟩⟩
end
/-- a name of the top that holds an int -/
theorem pgi {X : Cx} {x : Str} {i : Int} {pos : Pos} (h : ∃ t, X.mg x = some (.int i t)) (hg : Gl X x := by rfl) (hd : (x == ("__debug__" : Str)) = false := by decide) : PE X (.Name x pos) (tC (.int i)) := by
  obtain ⟨t, e⟩ := h
  exact pe_glob hg e ⟨t, rfl⟩ hd
theorem sz {n : Nat} (h : n ≤ 100000) : n ≤ sizeLine := Nat.le_trans h (by decide)
theorem szl {n : Nat} (h : n ≤ 100000) : n < sizeLine := Nat.lt_of_le_of_lt h (by decide)
end Sb


namespace Sb
open PySem PySem.Spec
open PyProof.Rows L2

/-! ### s >= t of two pairs of ints -/
def rGe2 (K : PySem.W.Frag) : R2 := fun x y H Q => ∃ (p q : Addr) (a b c d : Int), x = .ref p ∧ y = .ref q ∧ SqT K H p [.int a, .int b] ∧ SqT K H q [.int c, .int d] ∧ Q (.bl (if a = c then decide (d ≤ b) else decide (c ≤ a))) H
theorem beqD (a b : Int) : (a == b) = decide (a = b) := by
  by_cases h : a = b
  · rw [h]; simp
  · simp [h]
theorem op_ge2 {X : Cx} (hu : X.A.units < cLine) : OpR X (compareOp .GtE) (rGe2 X.K) := by
  intro pins s σ H x y v u Q I rx ry h
  obtain ⟨p, q, a, b, c, d, rfl, rfl, hp, hq, k⟩ := h
  cases rx
  cases ry
  obtain ⟨l1, r1, t1, _⟩ := I.tuple hp
  obtain ⟨l2, r2, t2, _⟩ := I.tuple hq
  obtain ⟨u1, u2, rfl, ⟨k1, rfl⟩, ⟨k2, rfl⟩⟩ := vals2 r1
  obtain ⟨w1, w2, rfl, ⟨k3, rfl⟩, ⟨k4, rfl⟩⟩ := vals2 r2
  have R := Ob.RcOp.tuples_ge (A := X.A) (s := s) (e := fun j => if j = 0 then (a == c) else (b == d)) (r := fun j => if j = 0 then decide (c ≤ a) else decide (d ≤ b)) t1 t2 hu
    (fun j h1 h2 => match j, h1, h2 with
      | 0, _, _ => SeqAt.EqAt.int_int a k1 c k3
      | 1, _, _ => SeqAt.EqAt.int_int b k2 d k4
      | n + 2, h1, _ => absurd (show n + 2 < 2 from h1) (by omega))
    (fun j h1 h2 _ => match j, h1, h2 with
      | 0, _, _ => Ob.RcOp.ge_int a c k1 k3
      | 1, _, _ => Ob.RcOp.ge_int b d k2 k4
      | n + 2, h1, _ => absurd (show n + 2 < 2 from h1) (by omega))
  refine R X.prog X.w X.xe (EP X pins σ Q) (fin_bl I k ?_)
  show (if a = c then decide (d ≤ b) else decide (c ≤ a)) = (if (a == c) = true then (if (b == d) = true then decide ((2 : Nat) ≥ 2) else decide (d ≤ b)) else decide (c ≤ a))
  rw [beqD, beqD]
  by_cases h1 : a = c
  · rw [if_pos h1, if_pos (decide_eq_true h1)]
    by_cases h2 : b = d
    · rw [if_pos (decide_eq_true h2)]
      exact (decide_eq_true (by omega)).trans (decide_eq_true (by omega)).symm
    · rw [if_neg (by simp [h2])]
  · rw [if_neg h1, if_neg (by simp [h1])]

/-! ### x not in t, x data, t a tuple of data -/
def rNoT (K : PySem.W.Frag) : R2 := fun x y H Q => ∃ d ds, Dp K H x d ∧ Dp K H y (.tuple ds) ∧ SeqAt.shaped d = true ∧ SeqAt.shaped (.tuple ds) = true ∧ Q (.bl (!ds.any fun z => PyData.eqv z d)) H
theorem op_noT {X : Cx} (hu : X.A.units + 65 < cLine) : OpR X (compareOp .NotIn) (rNoT X.K) := by
  intro pins s σ H x y v u Q I rx ry h
  obtain ⟨d, ds, hd, he, sd, se, q⟩ := h
  obtain ⟨as, r1⟩ := Dp.reads I d x v hd rx
  obtain ⟨bs, r2⟩ := Dp.reads I (.tuple ds) y u he ry
  have hds : PyData.canLayAll0 ds = true := by
    have z := SeqAt.canLay_of_shaped se
    simpa only [PyData.canLay0] using z
  have dd := SeqAt.depth_of_shaped sd
  refine SeqAt.notIn_tuple_reads r2 r1 hds (SeqAt.canLay_of_shaped sd) ?_ ⟨.bl _, H, I, rfl, q⟩
  have z : min (PyData.depthAll ds) d.depth ≤ 64 := Nat.le_trans (Nat.min_le_right _ _) dd
  omega

/-! ### enumerate(t), t a tuple -/
/-- the tuple at a as it stands, each item in a new pair with its number -/
def EnT (K : PySem.W.Frag) (a : Addr) : It where
  go := fun i H => ∃ (xs : List V) (x : V), SqT K H a xs ∧ xs[i]? = some x
  yld := fun i H v H' => ∃ T x, v = .ref T ∧ H T = none ∧ H' = upd H T (.tup [.int (i : Nat), x]) ∧ ∀ xs, SqT K H a xs → xs[i]? = some x
  stop := fun i H => ∃ xs : List V, SqT K H a xs ∧ xs.length = i
theorem enumNew {v : Value} {o : Obj} {Hv : Heap → Prop} (B : Begins v o Hv) :
    Meets (Builtin.«enumerate.__new__» ⟨[.type "enumerate", v], []⟩) (fun _ R s => Hv s.heap ∧
      R (.ok (.ret (.ref (s.heap.push o).objs.size))) { s with heap := (s.heap.push o).push { cls := .type "enumerate", data := .fields #[.none, .bool false, .ref s.heap.objs.size, rawInt 0, .none, .none] } }) :=
  .of_wp fun prog w A R s hh => by
    obtain ⟨hp, g, d, tk, os⟩ := s
    obtain ⟨b1, hR⟩ := hh
    have hsub := sub_enumerate
    have it1 : ∀ {A' : Around} {E : Value → Shared → Prop} {Q : Value → Shared → Prop}, Q (.ref hp.objs.size) ⟨hp.push o, g, d, tk, os⟩ → wpAny (model prog w) A' (pyIter v) Q E ⟨hp, g, d, tk, os⟩ :=
      fun q => B.iter prog w _ _ ⟨hp, g, d, tk, os⟩ _ b1 q
    wp_walk using it1
    refine wpAny_stack_any fun st => wpAny_pure ?_
    split
    · rename_i c _ _ _ _ _
      cases (c == Value.type "enumerate") <;> (wp_walk using it1; exact ⟨_, rfl, hR⟩)
    · wp_walk using it1
      exact ⟨_, rfl, hR⟩
theorem call_enumT {prog : Program} {w : World} {A : Around} {E : Value → Shared → Prop} {s : Shared} {a : Addr} {items : Array Value} {Q : Value → Shared → Prop} (ht : s.heap.IsTuple a items)
    (h : ∀ h', IsEnum h' (s.heap.objs.size + 1) s.heap.objs.size 0 .none → h'.IsTupleIter s.heap.objs.size a 0 → (∀ b o, s.heap.get? b = some o → h'.get? b = some o) → Q (.ref (s.heap.objs.size + 1)) { s with heap := h' }) :
    wpAny (model prog w) A (call (.type "enumerate") [.ref a]) Q E s := by
  have B := begins_tuple a items
  refine callType_new F.called_enumerate (by decide) (F.typeCall_enumerate_1 _) (F.newCall_enumerate_1 _) (fun obj => F.args_object_init_2 obj _) F.entry_enumerate_new (enumNew B) ⟨ht, ?_⟩
  generalize hit : ({ cls := .type "tuple_iterator", data := .fields #[.ref a, .int 0 0] } : Obj) = oi at B ⊢
  have fr : oi.isFreed = false := B.free
  have z1 : (s.heap.push oi).objs.size = s.heap.objs.size + 1 := Heap.size_push ..
  show _ ∧ _
  rw [z1]
  have g1 : (s.heap.push oi).get? s.heap.objs.size = some oi := Heap.get?_push_size _ fr
  have g2 : IsEnum ((s.heap.push oi).push { cls := .type "enumerate", data := .fields #[.none, .bool false, .ref s.heap.objs.size, rawInt 0, .none, .none] }) (s.heap.objs.size + 1) s.heap.objs.size 0 .none := by
    have q := Heap.get?_push_size (s.heap.push oi) (o := { cls := .type "enumerate", data := .fields #[.none, .bool false, .ref s.heap.objs.size, rawInt 0, .none, .none] }) rfl
    rw [z1] at q
    exact q
  refine ⟨⟨_, g2, rfl⟩, h _ g2 ⟨oi, Heap.get?_push_of_some _ g1, by rw [← hit], by rw [← hit] <;> rfl⟩ fun b o q => Heap.get?_push_of_some _ (Heap.get?_push_of_some _ q)⟩
theorem turn_enT {P : Program} {w : World} {K : PySem.W.Frag} {elts : List Expr} {kk : Nat} {tpos : Pos} (a e it : Addr) :
    Turn P w K (.Tuple elts kk tpos) (EnT K a) [e, it] e (fun i h => (∃ old, IsEnum h e it (0 + (i : Int)) old) ∧ h.IsTupleIter it a i ∧ e ≠ it) where
  mem := List.mem_cons_self
  obj := fun i h st b hb => by
    obtain ⟨⟨old, he⟩, ⟨o, ho, _, hd⟩, _⟩ := st
    rcases List.mem_cons.mp hb with rfl | hb
    · exact ⟨_, he, fun v q => nomatch q⟩
    · rw [List.mem_singleton.mp hb]
      exact ⟨o, ho, fun v q => by rw [hd] at q; cases q⟩
  keep := fun i h h' st k => by
    obtain ⟨⟨old, he⟩, hi, hne⟩ := st
    exact ⟨⟨old, k e (by simp) _ he⟩, hi.at fun o q => k it (by simp) o q, hne⟩
  item := by
    intro X hP hw hK hc i pins s σ H E I hf st hg
    subst hP hw hK
    obtain ⟨⟨old, he⟩, hit, hne⟩ := st
    obtain ⟨xs, x, hq, hx⟩ := hg
    obtain ⟨its, rv, tt, hz⟩ := I.tuple hq
    obtain ⟨u, hu, ru⟩ := rv.get hx
    have tt2 : s.heap.IsTuple a its.toArray := tt
    have nea : e ≠ a := fun z => by
      obtain ⟨o, ho, hcl, _⟩ := id tt
      rw [← z, show s.heap.get? e = some _ from he] at ho
      cases ho
      revert hcl
      show Value.type "enumerate" = Value.type "tuple" → False
      decide
    have nai : a ≠ it := fun z => by
      obtain ⟨o, ho, hcl, _⟩ := id tt
      obtain ⟨o2, ho2, hc2, _⟩ := id hit
      rw [z, ho2] at ho
      cases ho
      rw [hc2] at hcl
      revert hcl
      decide
    have hil : it < s.heap.objs.size := by obtain ⟨_, q, _⟩ := hit; exact Heap.lt_size q
    have hel : e < s.heap.objs.size := Heap.lt_size he
    have li : i < its.toArray.size := by
      obtain ⟨q, _⟩ := List.getElem?_eq_some_iff.mp hu
      simpa using q
    have D := Draws.tuple (prog := X.prog) (w := X.w) (A := X.A.in1) (I.ok.hd hc) it a nai its.toArray
    refine wpAny_pyNext_enum_itemC D he ⟨hit, tt2⟩ li hne (by simp [hne, nea]) fun v h1 tk hv ho st1 hT hsz hk => ?_
    have ev : v = u := by
      have hv2 : its[i]? = some v := by simpa using hv
      rw [hu] at hv2
      exact (Option.some.inj hv2).symm
    subst ev
    refine ⟨_, rfl, wpAny_letOwnedTupleGo_enum (s := { s with heap := h1, toks := tk + 1 }) ho fun h2 he2 sb => ?_⟩
    have ci : (0 : Int) + (i : Int) = ((i : Nat) : Int) := Int.zero_add _
    have gT : h2.get? s.heap.objs.size = some { cls := .type "tuple", data := .seq #[.int (0 + (i : Int)) tk, v] } := (sb.2 _ (Nat.ne_of_gt hel)).trans hT
    have new : ObjOk X.prog X.w (upd H s.heap.objs.size (.tup [.int (i : Nat), x])) h2 s.heap.objs.size (.tup [.int (i : Nat), x]) :=
      ⟨by show 2 ≤ sizeLine; decide, [.int (0 + (i : Int)) tk, v], .cons ⟨tk, by rw [ci]⟩ (.cons ru .nil), ⟨_, gT, rfl, _, rfl⟩⟩
    have I1 : Inv X pins σ (upd H s.heap.objs.size (.tup [.int (i : Nat), x])) { s with heap := h2, toks := tk + 1 } :=
      I.turnedNew (ch := [e, it]) (fun b ob hb q => (sb.2 b (fun z => hb (by simp [z]))).trans (hk b ob (fun z => hb (by simp [z])) (fun z => hb (by simp [z])) q)) hf (Nat.le_refl _) new
    refine ⟨.ref s.heap.objs.size, _, I1, rfl, ⟨_, x, rfl, I.hok.fresh (Nat.le_refl _), rfl, fun ys hy => by rw [I.tuple_inj hy hq]; exact hx⟩, ⟨⟨v, ?_⟩, st1.1.at fun o q => (sb.2 it (Ne.symm hne)).trans q, hne⟩, fun b hb => ?_⟩
    · have e1 : (0 : Int) + ((i + 1 : Nat) : Int) = 0 + (i : Int) + 1 := by omega
      rw [e1]
      exact he2
    · have hb' : b < s.heap.objs.size := by
        rcases List.mem_cons.mp hb with rfl | hb
        · exact hel
        · rw [List.mem_singleton.mp hb]; exact hil
      rw [upd_ne (Nat.ne_of_lt hb')]
      exact (hf b hb).1
  done := by
    intro X hP hw hK hc i pins s σ H E I hf st hg
    subst hP hw hK
    obtain ⟨⟨old, he⟩, hit, hne⟩ := st
    obtain ⟨xs, hq, hx⟩ := hg
    obtain ⟨its, rv, tt, hz⟩ := I.tuple hq
    have nai : a ≠ it := fun z => by
      obtain ⟨o, ho, hcl, _⟩ := id tt
      obtain ⟨o2, ho2, hc2, _⟩ := id hit
      rw [z, ho2] at ho
      cases ho
      rw [hc2] at hcl
      revert hcl
      decide
    obtain ⟨f0, f1, f2, f3, f4, f5⟩ := hf it (by simp)
    have ll := rv.length
    have tail : i = its.toArray.size := by simp; omega
    subst tail
    have D := Draws.tuple (prog := X.prog) (w := X.w) (A := X.A.in1) (I.ok.hd hc) it a nai its.toArray
    exact wpAny_pyNext_enum_endD D he ⟨hit, tt⟩ fun h' eb => ⟨rfl, I.turned (t' := s.toks) (fun b o hb q => eb b o hb q) f0 f1 f3 f4 f5⟩
  self := fun A i s Q E st h => by
    obtain ⟨⟨_, he⟩, _⟩ := st
    exact wpAny_pyIter_enum he h
end Sb


namespace Sb
open PySem PySem.Spec
open PyProof.Rows L2

/-! ### enumerate(t) walked -/
def iEnT (K : PySem.W.Frag) (ta : TA) : TI := fun σ H R => ta σ H fun vs H1 => ∃ a xs, vs = [V.ref a] ∧ SqT K H1 a xs ∧ R (EnT K a) H1
theorem pi_enT {X : Cx} {e : Expr} {ta : TA} {p pos tpos : Pos} {elts : List Expr} {kk : Nat} (hm : X.mg "enumerate" = none) (ha : PA X [e] ta) (hg : Gl X "enumerate" := by rfl) (hs : starEach [e] X.env = [(false, eval e X.env)] := by rfl) :
    PI X (.Tuple elts kk tpos) (.Call (.Name "enumerate" p) [e] [] pos) (iEnT X.K ta) := by
  refine ⟨fun pins s σ H R I hw => ?_⟩
  refine Call_ (ld_blt I hg hm boot_enumerate (PyProof.Rows.callWith_type1 (thn (ha.run pos pins s σ H _ I hw) fun us s1 ⟨vs, H1, I1, rv, q1⟩ => ?_) hs rfl))
  obtain ⟨a, xs, ev, hq, q⟩ := q1
  subst ev
  cases rv with
  | cons r0 rr =>
    cases rr
    cases r0
    obtain ⟨its, r, tt, _⟩ := I1.tuple hq
    refine call_enumT tt fun h' he hit hk => wpAny_pyIter_enum he ?_
    have J : Inv X pins σ H1 { s1 with heap := h' } := I1.kept (t' := s1.toks) hk
    refine ⟨s1.heap.objs.size + 1, [s1.heap.objs.size + 1, s1.heap.objs.size], _, EnT X.K a, H1, rfl, J, turn_enT a (s1.heap.objs.size + 1) s1.heap.objs.size, ⟨⟨.none, he⟩, hit, Nat.succ_ne_self _⟩, fun b hb => ?_, q⟩
    have le : s1.heap.objs.size ≤ b := by
      rcases List.mem_cons.mp hb with z | z
      · rw [z]; exact Nat.le_succ _
      · rw [List.mem_singleton.mp z]; exact Nat.le_refl _
    exact I1.fpOk le (I1.hok.fresh le)
theorem walk_enT {K : PySem.W.Frag} {a : Addr} {xs : List V} : Walk (EnT K a) xs.length (fun H => SqT K H a xs) (YPair (fun i => some (V.int (i : Nat))) fun i => xs[i]?) where
  goes := fun i _ hi q => ⟨xs, xs[i], q, by simp [hi]⟩
  stops := fun _ q => ⟨xs, q, rfl⟩
  yields := fun i H v H' _ q y => by
    obtain ⟨T, x, h1, h2, h3, h4⟩ := y
    exact ⟨T, V.int (i : Nat), x, h1, h2, h3, rfl, h4 xs q⟩

/-! ### f(k = v, ..): keywords alone -/
theorem pcK {X : Cx} {j k : Nat} {x : Str} {ps ks : List Str} {sp : Sp} {p pos : Pos} {kws : List Keyword} {tk : TA} {g : List Value → List Value} {gV : List V → List V} {f : Addr} {fd : FuncData}
    (hm : X.mg x = some (.ref f)) (hk : PySem.W.keepIn X.K (.ref f) = true) (F : FnOk X.prog X.w X.K X.mg X.base CX0 j f fd ps sp)
    (hb : ∀ (s : Shared) (ws : List Value), ws.length = ks.length → BindsTo s fd ⟨[], ks.zip ws⟩ (ps.zip (g ws)))
    (hg2 : ∀ {zs : List V} {ws : List Value}, Vals zs ws → zs.length = ks.length → Vals (gV zs) (g ws))
    (hr : Room k X.A) (hkw : PK X kws tk) (hj : j ≤ k := by first | decide | omega) (hg : Gl X x := by rfl) (hall : (backToKw pos (keywordEach kws X.env)).all (·.1.isSome) = true := by rfl) (hks : (backToKw pos (keywordEach kws X.env)).filterMap (·.1) = ks := by rfl) (hdb : (x == ("__debug__" : Str)) = false := by decide)
    (hpl : ((backTo pos (starEach [] X.env)).any (·.1) || (backToKw pos (keywordEach kws X.env)).any (·.1.isNone)) = false := by rfl) :
    PE X (.Call (.Name x p) [] kws pos) (fun σ H Q => tk σ H fun zs H2 => zs.length = ks.length ∧ sp (gV zs) H2 Q E0) := by
  refine ⟨fun pins s σ H Q I hw => ?_⟩
  refine wpAny_Call_Name_kw (ld_glob I hg hm ?_ hdb)
  refine PySem.W.callWith_KW0 (h₀ := X.base) I.ok.mod.kin hk hall ?_ hpl
  refine thn (hkw.run pos pins s σ H _ I hw) fun ws s2 ⟨zs, H2, I2, rz, lz, q2⟩ => ⟨I2.kIn, ?_⟩
  rw [hks]
  have r2 := hg2 rz lz
  have lw : ws.length = ks.length := rz.length.symm.trans lz
  refine wpAny_call (codeAny_mono (F.run X.A X.stack s2 H2 ⟨[], ks.zip ws⟩ (g ws) (gV zs) Q E0 (hr.mono hj) I2.env0 (hb s2 ws lw) r2 q2) fun r s' z => ?_)
  match r, z with
  | .error _, z => exact False.elim z
  | .ok (.ret u), z => exact I2.after z
  | .ok .next, z => exact False.elim z
  | .ok .brk, z => exact False.elim z
  | .ok .cont, z => exact False.elim z

/-- a call of a def of the top by keywords alone, from the last parameter to the first -/
theorem pcW {X : Cx} {j k : Nat} {x : Str} {ps ks : List Str} {sp : Sp} {p pos : Pos} {kws : List Keyword} {tk : TA} {f : Addr} {st : Stmt} (G : Ok X.prog X.w X.K X.mg X.base j x ps sp)
    (T : X.mg x = some (.ref f) ∧ ∃ fd, FunD X.K x x (defArgs st) (defBody st) (defScope st) [] [] f fd)
    (h : ∀ (kV doc pm : Value) (an : Option Addr) (cdv ct : Value) (ws : List Value), ws.length = ks.length → bindArgs (PySem.W.fnOf x x (defArgs st) (defBody st) (defScope st) .none kV doc pm an cdv ct) ⟨[], ks.zip ws⟩ = pure (ps.zip ws.reverse))
    (hr : Room k X.A) (hkw : PK X kws tk) (hj : j ≤ k := by first | decide | omega) (hg : Gl X x := by rfl) (hall : (backToKw pos (keywordEach kws X.env)).all (·.1.isSome) = true := by rfl) (hks : (backToKw pos (keywordEach kws X.env)).filterMap (·.1) = ks := by rfl) (hdb : (x == ("__debug__" : Str)) = false := by decide)
    (hpl : ((backTo pos (starEach [] X.env)).any (·.1) || (backToKw pos (keywordEach kws X.env)).any (·.1.isNone)) = false := by rfl) :
    PE X (.Call (.Name x p) [] kws pos) (fun σ H Q => tk σ H fun zs H2 => zs.length = ks.length ∧ sp zs.reverse H2 Q E0) := by
  obtain ⟨f2, fd, hm, hk, ⟨_, oc, od, osl, lk⟩, F⟩ := G.ex
  obtain ⟨hm2, fd2, D⟩ := T
  have ef : f2 = f := by
    rw [hm] at hm2
    cases hm2
    rfl
  subst ef
  obtain ⟨oc2, od2, dV, kV, doc, pm, an, cdv, ct, osl2, efd, lk2, _, hD, _⟩ := D.ex
  have e : fd = fd2 := by
    rw [lk] at lk2
    cases lk2
    rfl
  rcases hD with ⟨_, rfl⟩ | ⟨z, _⟩
  · refine pcK hm hk F (g := List.reverse) (gV := List.reverse) (fun s ws hw => ?_) (fun r _ => Vals.reverse r) hr hkw hj hg hall hks hdb hpl
    rw [e, efd]
    exact .of_eq (h kV doc pm an cdv ct ws hw)
  · exact absurd rfl z

/-! ### defs that are called where no repr is under way -/
structure OkG (P : Program) (w : World) (K : PySem.W.Frag) (mg : Str → Option Value) (base : Heap) (k : Nat) (x : Str) (ps : List Str) (sp : Sp) : Prop where
  ex : ∃ (f : Addr) (fd : FuncData), mg x = some (.ref f) ∧ PySem.W.keepIn K (.ref f) = true ∧ Binds K fd ps [] ∧ (∀ vs H Q E, sp vs H Q E → vs.length = ps.length) ∧
    ∀ (A : Around) (outer : List Env) (s : Shared) (H : Hp) (args : Args) (us : List Value) (vs : List V) (Q : VK) (E : XK), Room k A → A.guards = some [] → Env0 P w K mg base A outer s H → BindsTo s fd args (ps.zip us) → Vals vs us → sp vs H Q E →
      codeAny (model P w) A (.call (.ref f) args) (CR CX0 outer P w H s Q E) s
section
variable {P : Program} {w : World} {K : PySem.W.Frag} {mg : Str → Option Value} {base : Heap}
/-- such a def by its body -/
theorem mkG {st : Stmt} {x : Str} {f : Addr} {N ps : List Str} {k : Nat} {sp : Sp} (T : mg x = some (.ref f) ∧ ∃ fd, FunD K x x (defArgs st) (defBody st) (defScope st) [] [] f fd) (S : FnScope N ps (defScope st))
    (hb : ∀ (kV doc pm : Value) (an : Option Addr) (cdv ct : Value) (us : List Value), us.length = ps.length → bindArgs (PySem.W.fnOf x x (defArgs st) (defBody st) (defScope st) .none kV doc pm an cdv ct) ⟨us, []⟩ = pure (ps.zip us))
    (len : ∀ vs H Q E, sp vs H Q E → vs.length = ps.length)
    (body : ∀ (cdv : Value) (A : Around) (outer : List Env) (s : Shared) (H : Hp) (vs : List V) (Q : VK) (E : XK), Room k (A.deeper (envOfC x (defScope st) s.heap.objs.size f cdv)) → A.guards = some [] → sp vs H Q E →
      ∃ t, PSs (cxOf CX0 P w K mg base N x (defScope st) f cdv A outer s H E).nox (defBody st) t ∧ t { nx := fun _ H' => Q .non H', rt := Q } (start N vs) H) : OkG P w K mg base (k + 1) x ps sp := by
  obtain ⟨hm, fd, F⟩ := T
  have keep := F.kp
  have bnd := F.bindsN hb
  obtain ⟨oc, od, dV, kV, doc, pm, an, cdv, ct, osl, efd, lk, hcd, _, _⟩ := F.ex
  subst efd
  refine ⟨f, _, hm, keep, bnd, len, ?_⟩
  intro A outer s H args us vs Q E room gs e0 bt rv want
  have inK : K.In s.heap := e0.mod.kin.keeps fun b o e => (e0.bs b o e).1
  have noL : s.heap.NoLimit := e0.mod.nolimit.keeps fun b o e => (e0.bs b o e).1
  have arity := len _ _ _ _ want
  obtain ⟨t, ht, hq⟩ := body cdv A outer s H vs Q E (room.deeper _) gs want
  refine codeAny_call_function room.depth (inK _ _ lk) rfl S.co S.gen rfl (PySem.W.codeRec_of inK hcd) (bt _ _ _ _ ?_)
  refine wpAny_newFunctionEnv_cells S.kind ?_ ?_
  · rintro ⟨n, v⟩ hy
    rcases S.par n (List.of_mem_zip hy).1 with z | z
    · exact .inl z
    · exact .inr ⟨z, PySem.W.cellsFrom_some _ _ _ (.inl z)⟩
  · intro env he s1 lay
    subst he
    refine ⟨noL.keeps lay.toInCall.keep, codeAny_func ?_⟩
    have J : Inv (cxOf CX0 P w K mg base N x (defScope st) f cdv A outer s H E) [] (start N vs) H s1 := inv_start S room.hd e0 arity rv lay
    have ends : ∀ {σ' : L2.St} {H' : Hp} {v : V} {u : Value} {s' : Shared}, Inv (cxOf CX0 P w K mg base N x (defScope st) f cdv A outer s H E) [] σ' H' s' → RelV v u → Q v H' → CE outer P w H s Q u s' :=
      fun {σ' H' v u s'} j r q => ⟨v, H', j.os, j.bare, j.base, j.hok, r, q⟩
    refine wpAny_mono (ht.nox.run [] s1 (start N vs) H _ J hq) ?_ fun e s' z => z
    intro fl s' z
    match fl, z with
    | .ret u, ⟨v, σ', H', j, r, q⟩ => exact ends j r q
    | .next, ⟨σ', H', j, q⟩ => exact ends (v := V.non) (u := Value.none) j rfl q
    | .brk, ⟨_, _, _, q⟩ => exact False.elim q
    | .cont, ⟨_, _, _, q⟩ => exact False.elim q
/-- a call of such a def -/
theorem pcG {X : Cx} {j k : Nat} {x : Str} {ps : List Str} {sp : Sp} {p pos : Pos} {e : Expr} {es : List Expr} {t : TA} (G : OkG X.prog X.w X.K X.mg X.base j x ps sp) (hr : Room k X.A) (gs : X.A.guards = some []) (ha : PA X (e :: es) t) (hj : j ≤ k := by first | decide | omega)
    (hg : Gl X x := by rfl) (hdb : (x == ("__debug__" : Str)) = false := by decide) (he : starEach (e :: es) X.env = (false, eval e X.env) :: starEach es X.env := by rfl) (hpl : (backTo pos (starEach es X.env)).any (·.1) = false := by rfl) :
    PE X (.Call (.Name x p) (e :: es) [] pos) (tCall sp [] E0 t) := by
  obtain ⟨f, fd, hm, hk, hb, hl, run⟩ := G.ex
  refine ⟨fun pins s σ H Q I hw => ?_⟩
  refine wpAny_Call_Name_kw (ld_glob I hg hm ?_ hdb)
  refine PySem.W.callWith_K (h₀ := X.base) I.ok.mod.kin hk (thn (ha.run pos pins s σ H _ I hw) fun us s1 ⟨vs, H1, I1, rv, q⟩ => ⟨I1.kIn, ?_⟩) he hpl
  have r2 : Vals (vs ++ []) (us ++ []) := rv.append .nil
  have l2 : (us ++ []).length = ps.length := by rw [← r2.length]; exact hl _ _ _ _ q
  refine wpAny_call (codeAny_mono (run X.A X.stack s1 H1 ⟨us, []⟩ (us ++ []) (vs ++ []) Q E0 (hr.mono hj) gs I1.env0 (hb s1 us I1.kIn l2) r2 q) fun r s' z => ?_)
  match r, z with
  | .error _, z => exact False.elim z
  | .ok (.ret u), z => exact I1.after z
  | .ok .next, z => exact False.elim z
  | .ok .brk, z => exact False.elim z
  | .ok .cont, z => exact False.elim z
/-- repr(x) of data -/
def rShow (K : PySem.W.Frag) : List V → Hp → VK → Prop := fun xs H Q => ∃ v d, xs = [v] ∧ Dp K H v d ∧ ((∃ b, d = .bool b ∧ Q (.str (if b = true then "True" else "False")) H) ∨
  ((∃ a, v = .ref a) ∧ d.showable = true ∧ d.hasDict = false ∧ d.depth ≤ 60 ∧ d.shown.length ≤ sizeLine ∧ Q (.str d.shown) H))
theorem call_show {X : Cx} {k : Nat} (hr : Room k X.A) (gs : X.A.guards = some []) : CallR X (.builtin "repr") (rShow X.K) := by
  intro pins s σ H xs us Q I r h
  obtain ⟨v, d, rfl, hd, h⟩ := h
  obtain ⟨u, rfl, ru⟩ := vals1 r
  rcases h with ⟨b, rfl, q⟩ | ⟨⟨a, rfl⟩, h1, h2, h3, h4, q⟩
  · cases hd
    cases ru
    exact PySem.P.repr_of_bool ⟨.str _, H, I.tok _, ⟨_, rfl⟩, q⟩
  · obtain ⟨as, rd⟩ := Dp.reads I d _ u hd ru
    cases ru
    have un := hr.units
    exact repr_of_reads' rd h1 (PyData.noDict_hsm h2) gs (by omega) (fun _ _ e => e) (fun h' t tk hk => ⟨.str d.shown, H, I.kept (t' := tk) hk, ⟨t, rfl⟩, q⟩) h4

/-! ### the law's end -/
theorem law_g {P : Program} {w : World} {K : PySem.W.Frag} {mg mb : Str → Option Value} {k : Nat} {x ln : Str} {sp : Sp} {s₁ : Shared} {vs : List Value} {ns : List Int} {a fa : Addr}
    (inK : K.In s₁.heap) (gl : s₁.heap.Ns mainGlobals mg) (bl : s₁.heap.Ns builtinsNs mb) (bb : ∀ x : Str, x ≠ "__name__" → mb x = bootBuiltins x) (noL : s₁.heap.NoLimit) (gn : s₁.gens = #[])
    (ha : s₁.heap.get? a = some { cls := .type "list", data := .seq vs.toArray }) (hin : IntsAre vs ns) (small : ns.length ≤ sizeLine) (room : Room k callerA) (hfa : mg ln = some (.ref fa))
    (F : ∀ base : Heap, K.In base → base.Ns mainGlobals mg → OkG P w K mg base k ln [x] sp)
    (want : ∀ H : Hp, SqL K H a (ns.map V.int) → H a = none ∨ (∃ o, H a = some (.frz o (.lst (ns.map V.int)))) → sp [.ref a] H (fun v _ => v = .bl true) E0) :
    codeAny (model P w) callerA (.call (.ref fa) ⟨[.ref a], []⟩) (fun r s' => r = .ok (.ret (.bool true)) ∧ OldK s₁.heap s'.heap ∧ s'.os = s₁.os ∧ AllBare s'.gens) s₁ := by
  have rel := vals_ints hin
  have lv := hin.length
  -- H: nothing, or the script alone, and then K knows nothing of it
  have main : ∀ H : Hp, SqL K H a (ns.map V.int) → HOk P w H s₁.heap → (∀ b u, H b = some u → b = a ∧ K.lookup a = none ∧ ∃ o, u = .frz o (.lst (ns.map V.int))) →
      codeAny (model P w) callerA (.call (.ref fa) ⟨[.ref a], []⟩) (fun r s' => r = .ok (.ret (.bool true)) ∧ OldK s₁.heap s'.heap ∧ s'.os = s₁.os ∧ AllBare s'.gens) s₁ := by
    intro H seq good only
    have away : ∀ {b : Addr} {o : Obj} {es : Array DictEntry} {n : Nat}, s₁.heap.get? b = some o → o.data = .dict es n → H b = none := by
      intro b o es n e d
      cases hb : H b with
      | none => rfl
      | some u =>
        rw [(only b u hb).1, ha] at e
        cases e
        cases (show Data.seq vs.toArray _ = Data.dict es n from d)
    have names : ∀ {b : Addr} {m : Str → Option Value}, s₁.heap.Ns b m → (hidT s₁.heap H).Ns b m := by
      rintro b m ⟨o, es, n, e, d, rest⟩
      exact ⟨o, es, n, hidT_get e (away e d), d, rest⟩
    have kb : K.In (hidT s₁.heap H) := by
      intro b o e
      refine hidT_get (inK b o e) ?_
      cases hb : H b with
      | none => rfl
      | some u =>
        obtain ⟨z1, z2, _⟩ := only b u hb
        rw [z1, z2] at e
        cases e
    have md : Mod K mg (hidT s₁.heap H) := by
      obtain ⟨mc, l1, l2⟩ := noL
      exact ⟨kb, names gl, ⟨mb, names bl, bb⟩, mc, names l1, l2⟩
    have e0 : Env0 P w K mg (hidT s₁.heap H) callerA [] s₁ H :=
      { frames := rfl, mod := md, bs := fun b o e => of_hidT e, bsz := Nat.le_of_eq (hidT_size _ _), funs := trivial, frf := fun b hb => (by cases (show b ∈ ([] : List Addr) from hb)), hok := good, bare := .of_eq gn }
    obtain ⟨f, fd, hm, _, bd, _, run⟩ := (F _ kb (names gl)).ex
    have ef : f = fa := by
      rw [hfa] at hm
      cases hm
      rfl
    subst ef
    have side : H a = none ∨ (∃ o, H a = some (.frz o (.lst (ns.map V.int)))) := by
      cases hb : H a with
      | none => exact .inl rfl
      | some u =>
        obtain ⟨_, _, o, e⟩ := only a u hb
        exact .inr ⟨o, by rw [e]⟩
    have bt : BindsTo s₁ fd ⟨[.ref a], []⟩ ([x].zip [Value.ref a]) := bd s₁ [.ref a] inK rfl
    refine codeAny_mono (run callerA [] s₁ H ⟨[.ref a], []⟩ [.ref a] [.ref a] _ E0 room rfl e0 bt (.cons rfl .nil) (want H seq side)) ?_
    intro r s' z
    match r, z with
    | .error _, z => exact False.elim z
    | .ok .next, z => exact False.elim z
    | .ok .brk, z => exact False.elim z
    | .ok .cont, z => exact False.elim z
    | .ok (.ret u), ⟨v, H', os', bare', un, good', rv, q⟩ =>
      subst q
      cases (show u = Value.bool true from rv)
      refine ⟨rfl, OldK.of_keep ?_, os', bare'⟩
      intro b o e
      cases hb : H b with
      | none => exact un.keep b o e hb (fun z => by cases (show b ∈ ([] : List Addr) from z)) (by simp)
      | some y =>
        obtain ⟨_, _, ob, ey⟩ := only b y hb
        rw [ey] at hb
        have g1 := (good b _ hb).1
        have g2 := (good' b _ (un.frzs b ob _ hb)).1
        rw [e] at g1
        cases g1
        exact g2
  cases hk : K.lookup a with
  | some o =>
    have e := inK a o hk
    rw [ha] at e
    cases e
    refine main (fun _ => none) (.inr ⟨_, vs.toArray, _, hk, rfl, rfl, rfl, by rw [List.size_toArray, lv]; exact small, by simpa using rel⟩) (fun b u z => by cases (show (none : Option HO) = some u from z)) fun b u z => by cases (show (none : Option HO) = some u from z)
  | none =>
    refine main (upd (fun _ => none) a (.frz { cls := .type "list", data := .seq vs.toArray } (.lst (ns.map V.int)))) (.inl (.inr ⟨_, upd_same⟩)) (fun b u z => ?_) fun b u z => ?_
    · by_cases hb : b = a
      · subst hb
        rw [upd_same] at z
        cases z
        exact ⟨ha, by rw [List.length_map]; exact small, vs, _, rel, ha⟩
      · rw [upd_ne hb] at z
        cases z
    · by_cases hb : b = a
      · subst hb
        rw [upd_same] at z
        cases z
        exact ⟨rfl, hk, _, rfl⟩
      · rw [upd_ne hb] at z
        cases z
end
end Sb


namespace Sb
open PySem PySem.Spec
open PyProof.Rows L2
section
variable {P : Program} {w : World} {K : PySem.W.Frag} {mg : Str → Option Value} {base : Heap}

/-! ### terms in short, the written part K named -/
theorem pIsi (K : PySem.W.Frag) {X : Cx} {T0 : Str} {e : Expr} {te : TE} {n : String} {p pos pos2 : Pos} (hm : X.mg "isinstance" = none) (he : PE X e te) (hT : X.mg T0 = none) (hv : bootBuiltins T0 = some (.type n)) (hK : X.K = K := by rfl) (hg : Gl X "isinstance" := by rfl) (hg2 : Gl X T0 := by rfl)
    (hn : T0 ≠ "__name__" := by decide) (hd : (T0 == ("__debug__" : Str)) = false := by decide) (h1 : starEach [e, .Name T0 pos2] X.env = (false, eval e X.env) :: starEach [.Name T0 pos2] X.env := by rfl) (h2 : starEach [.Name T0 pos2] X.env = (false, eval (.Name T0 pos2) X.env) :: starEach [] X.env := by rfl)
    (hpl : (backTo pos (starEach [.Name T0 pos2] X.env)).any (·.1) = false := by rfl) :
    PE X (.Call (.Name "isinstance" p) [e, .Name T0 pos2] [] pos) (tCB (rIsi K) (tCons te (tCons (tC (.ty n)) tNil))) := by
  subst hK
  exact pe_callB call_isi hg hm PyProof.Rows.boot_isinstance (pa_cons he (pa_cons (pe_bltn (v := .ty n) hg2 hT hv rfl hn hd) pa_nil h2) h1) (by decide) (by decide) h1 hpl
def rLn (K : PySem.W.Frag) : List V → Hp → VK → Prop := fun xs H Q => ∃ p ys, xs = [V.ref p] ∧ (SqL K H p ys ∨ SqT K H p ys) ∧ Q (.int ys.length) H
theorem pLen (K : PySem.W.Frag) {X : Cx} {e : Expr} {te : TE} {p pos : Pos} (hm : X.mg "len" = none) (he : PE X e te) (hK : X.K = K := by rfl) (hg : Gl X "len" := by rfl) (h1 : starEach [e] X.env = (false, eval e X.env) :: starEach [] X.env := by rfl) (hpl : (backTo pos (starEach [] X.env)).any (·.1) = false := by rfl) :
    PE X (.Call (.Name "len" p) [e] [] pos) (tCB (rLn K) (tCons te tNil)) := by
  subst hK
  exact pe_callB call_len_seq hg hm PySem.boot_len (pa_cons he pa_nil h1) (by decide) (by decide) h1 hpl
def rTpl (K : PySem.W.Frag) : List V → Hp → VK → Prop := fun xs H Q => ∃ p ys, xs = [V.ref p] ∧ ((SqL K H p ys ∧ ∀ l, H l = none → Q (.ref l) (upd H l (.tup ys))) ∨ (SqT K H p ys ∧ Q (.ref p) H))
theorem pTup (K : PySem.W.Frag) {X : Cx} {e : Expr} {te : TE} {p pos : Pos} (hm : X.mg "tuple" = none) (he : PE X e te) (hK : X.K = K := by rfl) (hg : Gl X "tuple" := by rfl) (h1 : starEach [e] X.env = (false, eval e X.env) :: starEach [] X.env := by rfl) (hpl : (backTo pos (starEach [] X.env)).any (·.1) = false := by rfl) :
    PE X (.Call (.Name "tuple" p) [e] [] pos) (tCB (rTpl K) (tCons te tNil)) := by
  subst hK
  exact pe_callTy call_tuple_of hg hm PyProof.Rows.boot_tuple (pa_cons he pa_nil h1) (by decide) (by decide) h1 hpl
def rLst (K : PySem.W.Frag) : List V → Hp → VK → Prop := fun xs H Q => ∃ p ys, xs = [V.ref p] ∧ (SqL K H p ys ∨ SqT K H p ys) ∧ ∀ l, H l = none → Q (.ref l) (upd H l (.lst ys))
theorem pList (K : PySem.W.Frag) {X : Cx} {e : Expr} {te : TE} {p pos : Pos} (hm : X.mg "list" = none) (he : PE X e te) (hK : X.K = K := by rfl) (hg : Gl X "list" := by rfl) (h1 : starEach [e] X.env = (false, eval e X.env) :: starEach [] X.env := by rfl) (hpl : (backTo pos (starEach [] X.env)).any (·.1) = false := by rfl) :
    PE X (.Call (.Name "list" p) [e] [] pos) (tCB (rLst K) (tCons te tNil)) := by
  subst hK
  exact pe_callTy call_list_of hg hm PyProof.Rows.boot_list (pa_cons he pa_nil h1) (by decide) (by decide) h1 hpl
theorem pSum (K : PySem.W.Frag) {X : Cx} {e : Expr} {te : TE} {p pos : Pos} (hm : X.mg "sum" = none) (he : PE X e te) (hK : X.K = K := by rfl) (hc : X.calm = true := by rfl) (hg : Gl X "sum" := by rfl) (h1 : starEach [e] X.env = (false, eval e X.env) :: starEach [] X.env := by rfl) (hpl : (backTo pos (starEach [] X.env)).any (·.1) = false := by rfl) :
    PE X (.Call (.Name "sum" p) [e] [] pos) (tCB (rSum K) (tCons te tNil)) := by
  subst hK
  exact pe_callB (cr_sum hc) hg hm PyProof.Rows.boot_sum (pa_cons he pa_nil h1) (by decide) (by decide) h1 hpl
def rInt1 : List V → Hp → VK → Prop := fun xs H Q => ∃ i : Int, xs = [V.int i] ∧ Q (.int i) H
theorem pInt {X : Cx} {e : Expr} {te : TE} {p pos : Pos} (hm : X.mg "int" = none) (he : PE X e te) (hg : Gl X "int" := by rfl) (h1 : starEach [e] X.env = (false, eval e X.env) :: starEach [] X.env := by rfl) (hpl : (backTo pos (starEach [] X.env)).any (·.1) = false := by rfl) :
    PE X (.Call (.Name "int" p) [e] [] pos) (tCB rInt1 (tCons te tNil)) :=
  pe_callTy (r := rInt1) (fun pins s σ H xs us Q I r h => call_int1 pins s σ H xs us Q I r (by obtain ⟨i, rfl, q⟩ := h; exact .inl ⟨i, rfl, q⟩)) hg hm PyProof.Rows.boot_int (pa_cons he pa_nil h1) (by decide) (by decide) h1 hpl
def rMx : List V → Hp → VK → Prop := fun xs H Q => ∃ i j : Int, xs = [V.int i, V.int j] ∧ Q (.int (if j > i then j else i)) H
def rMn : List V → Hp → VK → Prop := fun xs H Q => ∃ i j : Int, xs = [V.int i, V.int j] ∧ Q (.int (if j < i then j else i)) H
theorem pMax {X : Cx} {e f : Expr} {te tf : TE} {p pos : Pos} (hm : X.mg "max" = none) (he : PE X e te) (hf : PE X f tf) (hc : X.calm = true := by rfl) (hg : Gl X "max" := by rfl) (h1 : starEach [e, f] X.env = (false, eval e X.env) :: starEach [f] X.env := by rfl) (h2 : starEach [f] X.env = (false, eval f X.env) :: starEach [] X.env := by rfl) (hpl : (backTo pos (starEach [f] X.env)).any (·.1) = false := by rfl) :
    PE X (.Call (.Name "max" p) [e, f] [] pos) (tCB rMx (tCons te (tCons tf tNil))) :=
  pe_callB (call_max2 hc) hg hm PyProof.Rows.boot_max (pa_cons he (pa_cons hf pa_nil h2) h1) (by decide) (by decide) h1 hpl
theorem pMin {X : Cx} {e f : Expr} {te tf : TE} {p pos : Pos} (hm : X.mg "min" = none) (he : PE X e te) (hf : PE X f tf) (hc : X.calm = true := by rfl) (hg : Gl X "min" := by rfl) (h1 : starEach [e, f] X.env = (false, eval e X.env) :: starEach [f] X.env := by rfl) (h2 : starEach [f] X.env = (false, eval f X.env) :: starEach [] X.env := by rfl) (hpl : (backTo pos (starEach [f] X.env)).any (·.1) = false := by rfl) :
    PE X (.Call (.Name "min" p) [e, f] [] pos) (tCB rMn (tCons te (tCons tf tNil))) :=
  pe_callB (call_min2 hc) hg hm PyProof.Rows.boot_min (pa_cons he (pa_cons hf pa_nil h2) h1) (by decide) (by decide) h1 hpl
theorem pIx (K : PySem.W.Frag) {X : Cx} {a i : Expr} {ta ti : TE} {pos : Pos} (ha : PE X a ta) (hi : PE X i ti) (hK : X.K = K := by rfl) (hs : PlainIx i := by exact fun _ _ => rfl) : PE X (.Subscript a i pos) (tOp (rIxT K) ta ti) := by
  subst hK
  exact pe_ix ix_tup ha hi hs
theorem pIxL (K : PySem.W.Frag) {X : Cx} {a i : Expr} {ta ti : TE} {pos : Pos} (ha : PE X a ta) (hi : PE X i ti) (hK : X.K = K := by rfl) (hs : PlainIx i := by exact fun _ _ => rfl) : PE X (.Subscript a i pos) (tOp (rIxL K) ta ti) := by
  subst hK
  exact pe_ix ix_list ha hi hs
theorem pIxS (K : PySem.W.Frag) {X : Cx} {a i : Expr} {ta ti : TE} {pos : Pos} (ha : PE X a ta) (hi : PE X i ti) (hK : X.K = K := by rfl) (hs : PlainIx i := by exact fun _ _ => rfl) : PE X (.Subscript a i pos) (tOp (rIx K) ta ti) := by
  subst hK
  exact pe_ix ix_seq ha hi hs
theorem opIn (K : PySem.W.Frag) {X : Cx} (hK : X.K = K := by rfl) : OpR X (compareOp .In) (rIn K false) := by
  subst hK
  exact op_in_seq
theorem opNi (K : PySem.W.Frag) {X : Cx} (hK : X.K = K := by rfl) : OpR X (compareOp .NotIn) (rIn K true) := by
  subst hK
  exact op_notIn_seq
theorem opEd (K : PySem.W.Frag) {X : Cx} {k : Nat} (hr : Room k X.A) (hK : X.K = K := by rfl) : OpR X (compareOp .Eq) (rEqD K) := by
  subst hK
  exact op_eqD hr.units
theorem opNd (K : PySem.W.Frag) {X : Cx} {k : Nat} (hr : Room k X.A) (hK : X.K = K := by rfl) : OpR X (compareOp .NotEq) (rNeD K) := by
  subst hK
  exact op_neD hr.units
theorem opNoT (K : PySem.W.Frag) {X : Cx} {k : Nat} (hr : Room k X.A) (hK : X.K = K := by rfl) : OpR X (compareOp .NotIn) (rNoT K) := by
  subst hK
  have z := hr.un
  exact op_noT (by omega)
theorem opGe2 (K : PySem.W.Frag) {X : Cx} {k : Nat} (hr : Room k X.A) (hK : X.K = K := by rfl) : OpR X (compareOp .GtE) (rGe2 K) := by
  subst hK
  exact op_ge2 hr.units0
theorem opCatA (K : PySem.W.Frag) {X : Cx} (hK : X.K = K := by rfl) : OpR X (binaryOp .Add) (rCatA K) := by
  subst hK
  exact op_catA
/-- TWOS, WORDS as values -/
theorem pTwos {X : Cx} {a : Addr} {pos : Pos} (h : X.mg "TWOS" = some (.ref a)) (hg : Gl X "TWOS" := by rfl) : PE X (.Name "TWOS" pos) (tC (.ref a)) := pe_glob hg h rfl
theorem pWords {X : Cx} {a : Addr} {pos : Pos} (h : X.mg "WORDS" = some (.ref a)) (hg : Gl X "WORDS" := by rfl) : PE X (.Name "WORDS" pos) (tC (.ref a)) := pe_glob hg h rfl
theorem kitInt : kitB "int" "int" = some true := by decide +kernel
theorem kitIntB : kitB "int" "bool" = some false := by decide +kernel
theorem kitTup : kitB "tuple" "tuple" = some true := by decide +kernel
theorem kitStr : kitB "str" "str" = some true := by decide +kernel
theorem kitIntS : kitB "int" "str" = some false := by decide +kernel

theorem sc_is_from : FnScope ["value", "low", "high"] ["value", "low", "high"] (defScope s_is_from) := ⟨rfl, rfl, rfl, by decide +kernel, rfl, by decide +kernel, by decide +kernel⟩
def spFrom : Sp := fun vs H Q _ => ∃ v lo hi : Int, vs = [.int v, .int lo, .int hi] ∧ Q (.bl (decide (lo ≤ v ∧ v ≤ hi))) H
theorem ok_is_from (T : Top K mg) : Ok P w K mg base 1 "is_from" ["value", "low", "high"] spFrom := by
  refine mk (T.at_ (st := s_is_from) 0) sc_is_from (fun _ _ _ _ _ _ us hl => match us, hl with | [_, _, _], _ => rfl) (fun vs H Q E h => ?_) fun cdv A outer s H vs Q E hr h => ?_
  · obtain ⟨v, lo, hi, rfl, _⟩ := h
    rfl
  obtain ⟨v, lo, hi, rfl, q⟩ := h
  refine ⟨_, pss_one (ps_ret (pe_and (pIsi K T.isinstance (pv 0) T.int PyProof.Rows.boot_int) (pe_and (pe_not (pIsi K T.isinstance (pv 0) T.bool PyProof.Rows.boot_bool)) (pe_one (pe_chain op_le op_le (pv 1) (pv 0) (pv 2)))))), ?_⟩
  refine ⟨_, rfl, _, _, _, _, _, rfl, .ty _, .base (.int _), kit_ty kitInt, true, rfl, iteT ?_⟩
  refine ⟨_, rfl, _, _, _, _, _, rfl, .ty _, .base (.int _), kit_ty kitIntB, false, rfl, true, rfl, iteT ?_⟩
  refine ⟨_, rfl, _, rfl, _, _, rfl, rfl, _, rfl, ite2 (fun c => ?_) fun c => ?_⟩
  · have c1 : lo ≤ v := of_decide_eq_true c
    refine ⟨_, rfl, _, _, rfl, rfl, ?_⟩
    have e : decide (v ≤ hi) = decide (lo ≤ v ∧ v ≤ hi) := by simp [c1]
    show Q (.bl (decide (v ≤ hi))) H
    rw [e]
    exact q
  · have c1 : ¬ lo ≤ v := fun z => c (decide_eq_true z)
    have e : false = decide (lo ≤ v ∧ v ≤ hi) := by simp [c1]
    show Q (.bl false) H
    rw [e]
    exact q

theorem sc_is_sign : FnScope ["many", "value"] ["many", "value"] (defScope s_is_sign) := ⟨rfl, rfl, rfl, by decide +kernel, rfl, by decide +kernel, by decide +kernel⟩
/-- a sign is one -/
def spSign : Sp := fun vs H Q _ => ∃ (n i : Nat) (b : Bool) (v : V), vs = [.int (n : Int), v] ∧ Tp H v (dS i b) ∧ i < n ∧ Q (.bl true) H
theorem b2n_01 (b : Bool) : 0 ≤ (b2n b : Int) ∧ (b2n b : Int) ≤ 1 := by cases b <;> decide
theorem ok_is_sign (T : Top K mg) : Ok P w K mg base 2 "is_sign" ["many", "value"] spSign := by
  have G := ok_is_from (P := P) (w := w) (base := base) T
  refine mk (T.at_ (st := s_is_sign) 2) sc_is_sign (fun _ _ _ _ _ _ us hl => match us, hl with | [_, _], _ => rfl) (fun vs H Q E h => ?_) fun cdv A outer s H vs Q E hr h => ?_
  · obtain ⟨n, i, b, v, rfl, _⟩ := h
    rfl
  obtain ⟨n, i, b, v, rfl, hv, hi, q⟩ := h
  obtain ⟨a, x, y, rfl, ha, hx, hy⟩ := hv.two
  have ex := hx.intE
  have ey := hy.intE
  subst ex ey
  refine ⟨_, pss_cons (ps_if (PW.pt (pw_or (pt_not (pt_val (pIsi K T.isinstance (pv 1) T.tuple PyProof.Rows.boot_tuple))) (pw_or1 (pt_cmpR op_ne (pLen K T.len (pv 1)) pe_int (nomark _))))) (pss_one (ps_ret pe_bl)) pss_nil)
    (pss_one (ps_ret (pe_and (pc G hr (pa_cons (pIx K (pv 1) pe_int) (pa_cons pe_int (pa_cons (pe_op op_sub (pv 0) pe_int) pa_nil)))) (pe_one (pc G hr (pa_cons (pIx K (pv 1) pe_int) (pa_cons pe_int (pa_cons pe_int pa_nil)))))))), ?_⟩
  refine ⟨_, rfl, _, _, _, _, _, rfl, .ty _, .base (.tup ha), kit_ty kitTup, true, rfl, iteF ?_⟩
  refine ⟨_, rfl, a, _, rfl, .inr (SqT.of ha), rfl, _, rfl, iteF ?_⟩
  refine ⟨_, rfl, a, _, _, _, rfl, rfl, SqT.of ha, rfl, _, rfl, _, _, rfl, rfl, _, _, _, rfl, _, rfl, ?_⟩
  have e1 : decide ((0 : Int) ≤ (i : Int) ∧ (i : Int) ≤ (n : Int) - 1) = true := decide_eq_true (by omega)
  show if decide ((0 : Int) ≤ (i : Int) ∧ (i : Int) ≤ (n : Int) - 1) = true then _ else _
  rw [if_pos e1]
  refine ⟨_, rfl, a, _, _, _, rfl, rfl, SqT.of ha, rfl, _, _, _, rfl, ?_⟩
  have e2 : decide ((0 : Int) ≤ (b2n b : Int) ∧ (b2n b : Int) ≤ 1) = true := decide_eq_true (b2n_01 b)
  show Q (.bl (decide ((0 : Int) ≤ (b2n b : Int) ∧ (b2n b : Int) ≤ 1))) H
  rw [e2]
  exact q

theorem sc_check_many : FnScope ["value"] ["value"] (defScope s_check_many) := ⟨rfl, rfl, rfl, by decide +kernel, rfl, by decide +kernel, by decide +kernel⟩
def spMany : Sp := fun vs H Q _ => ∃ n : Nat, vs = [.int (n : Int)] ∧ 1 ≤ n ∧ n ≤ 8 ∧ Q (.int (n : Int)) H
theorem ok_check_many (T : Top K mg) : Ok P w K mg base 2 "check_many" ["value"] spMany := by
  have G := ok_is_from (P := P) (w := w) (base := base) T
  refine mk (T.at_ (st := s_check_many) 3) sc_check_many (fun _ _ _ _ _ _ us hl => match us, hl with | [_], _ => rfl) (fun vs H Q E h => ?_) fun cdv A outer s H vs Q E hr h => ?_
  · obtain ⟨n, rfl, _⟩ := h
    rfl
  obtain ⟨n, rfl, h1, h2, q⟩ := h
  refine ⟨_, pss_cons (ps_if (pt_not (pt_val (pc G hr (pa_cons (pv 0) (pa_cons pe_int (pa_cons (pgi T.mq) pa_nil)))))) (pss_one ps_never) pss_nil) (pss_one (ps_ret (pv 0))), ?_⟩
  refine ⟨_, rfl, _, _, _, rfl, _, rfl, ?_⟩
  have e1 : decide ((1 : Int) ≤ (n : Int) ∧ (n : Int) ≤ 8) = true := decide_eq_true (by omega)
  show if (!decide ((1 : Int) ≤ (n : Int) ∧ (n : Int) ≤ 8)) = true then _ else _
  rw [e1]
  refine iteF ?_
  exact ⟨_, rfl, q⟩

theorem sc_check_row : FnScope ["many", "value"] ["many", "value"] (defScope s_check_row) := ⟨rfl, rfl, rfl, by decide +kernel, rfl, by decide +kernel, by decide +kernel⟩
def spRow : Sp := fun vs H Q _ => ∃ n r : Nat, vs = [.int (n : Int), .int (r : Int)] ∧ n ≤ 8 ∧ r < 2 ^ n ∧ Q (.int (r : Int)) H
theorem twos_at {n : Nat} (h : n ≤ 8) : (twos.map V.int)[n]? = some (.int ((2 ^ n : Nat) : Int)) := by
  match n, h with
  | 0, _ => rfl
  | 1, _ => rfl
  | 2, _ => rfl
  | 3, _ => rfl
  | 4, _ => rfl
  | 5, _ => rfl
  | 6, _ => rfl
  | 7, _ => rfl
  | 8, _ => rfl
  | n + 9, h => omega
theorem ok_check_row (T : Top K mg) : Ok P w K mg base 2 "check_row" ["many", "value"] spRow := by
  have G := ok_is_from (P := P) (w := w) (base := base) T
  obtain ⟨tw, mt, ht⟩ := T.twos
  refine mk (T.at_ (st := s_check_row) 6) sc_check_row (fun _ _ _ _ _ _ us hl => match us, hl with | [_, _], _ => rfl) (fun vs H Q E h => ?_) fun cdv A outer s H vs Q E hr h => ?_
  · obtain ⟨n, r, rfl, _⟩ := h
    rfl
  obtain ⟨n, r, rfl, h1, h2, q⟩ := h
  refine ⟨_, pss_cons (ps_if (pt_not (pt_val (pc G hr (pa_cons (pv 1) (pa_cons pe_int (pa_cons (pe_op op_sub (pIx K (pTwos mt) (pv 0)) pe_int) pa_nil)))))) (pss_one ps_never) pss_nil) (pss_one (ps_ret (pv 1))), ?_⟩
  refine ⟨_, rfl, _, rfl, tw, _, _, _, rfl, rfl, ht H, atI_nat (twos_at h1), _, _, rfl, rfl, _, _, _, rfl, _, rfl, ?_⟩
  have e1 : decide ((0 : Int) ≤ (r : Int) ∧ (r : Int) ≤ ((2 ^ n : Nat) : Int) - 1) = true := decide_eq_true (by omega)
  show if (!decide ((0 : Int) ≤ (r : Int) ∧ (r : Int) ≤ ((2 ^ n : Nat) : Int) - 1)) = true then _ else _
  rw [e1]
  refine iteF ?_
  exact ⟨_, rfl, q⟩

theorem sc_bit_so : FnScope ["row", "place"] ["row", "place"] (defScope s_bit_so) := ⟨rfl, rfl, rfl, by decide +kernel, rfl, by decide +kernel, by decide +kernel⟩
def spBit : Sp := fun vs H Q _ => ∃ r i : Nat, vs = [.int (r : Int), .int (i : Int)] ∧ i ≤ 8 ∧ Q (.int ((r / 2 ^ i % 2 : Nat) : Int)) H
theorem pow8 {i : Nat} (h : i ≤ 8) : 2 ^ i < 1073741824 := Nat.lt_of_le_of_lt (Nat.pow_le_pow_right (by decide) h) (by decide)
theorem ok_bit_so (T : Top K mg) : Ok P w K mg base 1 "bit_so" ["row", "place"] spBit := by
  obtain ⟨tw, mt, ht⟩ := T.twos
  refine mk (T.at_ (st := s_bit_so) 7) sc_bit_so (fun _ _ _ _ _ _ us hl => match us, hl with | [_, _], _ => rfl) (fun vs H Q E h => ?_) fun cdv A outer s H vs Q E hr h => ?_
  · obtain ⟨r, i, rfl, _⟩ := h
    rfl
  obtain ⟨r, i, rfl, h1, q⟩ := h
  refine ⟨_, pss_one (ps_ret (pe_op op_mod (pe_op op_fdiv (pv 0) (pIx K (pTwos mt) (pv 1))) pe_int)), ?_⟩
  have p1 := Nat.two_pow_pos i
  have p2 := pow8 h1
  refine ⟨_, rfl, _, rfl, tw, _, _, _, rfl, rfl, ht H, atI_nat (twos_at h1), _, _, rfl, rfl, ⟨by omega, by omega⟩, _, _, rfl, rfl, (by show (0 : Int) < 2; decide), ?_⟩
  have e : ((r : Int) / ((2 ^ i : Nat) : Int) % 2) = ((r / 2 ^ i % 2 : Nat) : Int) := by simp
  show Q (.int ((r : Int) / ((2 ^ i : Nat) : Int) % 2)) H
  rw [e]
  exact q

theorem sc_is_so : FnScope ["sign", "row"] ["sign", "row"] (defScope s_is_so) := ⟨rfl, rfl, rfl, by decide +kernel, rfl, by decide +kernel, by decide +kernel⟩
def spSo : Sp := fun vs H Q _ => ∃ (i r : Nat) (b : Bool) (v : V), vs = [v, .int (r : Int)] ∧ Tp H v (dS i b) ∧ i ≤ 8 ∧ Q (.bl (decide (bit r i = b))) H
theorem bitI (r i : Nat) (b : Bool) : decide (V.int ((r / 2 ^ i % 2 : Nat) : Int) = V.int (b2n b : Int)) = decide (bit r i = b) := by
  have h : r / 2 ^ i % 2 < 2 := Nat.mod_lt _ (by decide)
  unfold bit
  generalize r / 2 ^ i % 2 = z at h ⊢
  match z, h with
  | 0, _ => cases b <;> decide
  | 1, _ => cases b <;> decide
theorem ok_is_so (T : Top K mg) : Ok P w K mg base 2 "is_so" ["sign", "row"] spSo := by
  have G := ok_bit_so (P := P) (w := w) (base := base) T
  refine mk (T.at_ (st := s_is_so) 8) sc_is_so (fun _ _ _ _ _ _ us hl => match us, hl with | [_, _], _ => rfl) (fun vs H Q E h => ?_) fun cdv A outer s H vs Q E hr h => ?_
  · obtain ⟨i, r, b, v, rfl, _⟩ := h
    rfl
  obtain ⟨i, r, b, v, rfl, hv, hi, q⟩ := h
  obtain ⟨a, x, y, rfl, ha, hx, hy⟩ := hv.two
  have ex := hx.intE
  have ey := hy.intE
  subst ex ey
  refine ⟨_, pss_one (ps_ret (pe_cmpR op_eq (pc G hr (pa_cons (pv 1) (pa_cons (pIx K (pv 0) pe_int) pa_nil))) (pIx K (pv 0) pe_int) (nomark _))), ?_⟩
  refine ⟨_, rfl, _, rfl, a, _, _, _, rfl, rfl, SqT.of ha, rfl, r, i, rfl, hi, _, rfl, a, _, _, _, rfl, rfl, SqT.of ha, rfl, rfl, ?_⟩
  show Q (.bl (decide (V.int ((r / 2 ^ i % 2 : Nat) : Int) = V.int (b2n b : Int)))) H
  rw [bitI]
  exact q

theorem sc_turned_sign : FnScope ["sign"] ["sign"] (defScope s_turned_sign) := ⟨rfl, rfl, rfl, by decide +kernel, rfl, by decide +kernel, by decide +kernel⟩
def spTurn : Sp := fun vs H Q _ => ∃ (i : Nat) (b : Bool) (v : V), vs = [v] ∧ Tp H v (dS i b) ∧ ∀ r H', Same H H' → Tp H' r (dS i (!b)) → Q r H'
theorem b2n_not (b : Bool) : (1 : Int) - (b2n b : Int) = (b2n (!b) : Int) := by cases b <;> decide
theorem ok_turned_sign (T : Top K mg) : Ok P w K mg base 1 "turned_sign" ["sign"] spTurn := by
  refine mk (T.at_ (st := s_turned_sign) 9) sc_turned_sign (fun _ _ _ _ _ _ us hl => match us, hl with | [_], _ => rfl) (fun vs H Q E h => ?_) fun cdv A outer s H vs Q E hr h => ?_
  · obtain ⟨i, b, v, rfl, _⟩ := h
    rfl
  obtain ⟨i, b, v, rfl, hv, q⟩ := h
  obtain ⟨a, x, y, rfl, ha, hx, hy⟩ := hv.two
  have ex := hx.intE
  have ey := hy.intE
  subst ex ey
  refine ⟨_, pss_one (ps_ret (pe_tup (pa_cons (pIx K (pv 0) pe_int) (pa_cons (pe_op op_sub pe_int (pIx K (pv 0) pe_int)) pa_nil)))), ?_⟩
  refine ⟨_, rfl, a, _, _, _, rfl, rfl, SqT.of ha, rfl, _, rfl, a, _, _, _, rfl, rfl, SqT.of ha, rfl, _, _, rfl, rfl, sz (by show 2 ≤ 100000; decide), fun p hp => ?_⟩
  refine q _ _ (sNew hp) ?_
  refine .tup (xs := [.int (i : Int), .int (b2n (!b) : Int)]) ?_ (.cons (.int _) (.cons (.int _) .nil))
  rw [upd_same, ← b2n_not]
  all_goals rfl
end
end Sb


namespace Sb
open PySem PySem.Spec
open PyProof.Rows L2
section
variable {P : Program} {w : World} {K : PySem.W.Frag} {mg : Str → Option Value} {base : Heap}

/-! ### all signs -/
theorem sgs_length (n : Nat) : (sgs n).length = 2 * n := by
  unfold sgs
  rw [List.length_map, List.length_range]
theorem sgs_at {n k : Nat} (h : k < 2 * n) : (sgs n)[k]? = some (k / 2, decide (k % 2 = 1)) := by
  unfold sgs
  rw [List.getElem?_map, List.getElem?_range h]
  rfl
theorem sgs_succ (n : Nat) : sgs (n + 1) = sgs n ++ [(n, false), (n, true)] := by
  unfold sgs
  have e : 2 * (n + 1) = 2 * n + 1 + 1 := by omega
  rw [e, List.range_succ, List.range_succ, List.map_append, List.map_append, List.append_assoc]
  congr 1
  have h1 : (2 * n) / 2 = n := by omega
  have h2 : (2 * n + 1) / 2 = n := by omega
  have h3 : ¬ (2 * n) % 2 = 1 := by omega
  have h4 : (2 * n + 1) % 2 = 1 := by omega
  simp only [List.map_cons, List.map_nil, h1, h2, decide_eq_false h3, decide_eq_true h4]
  rfl
/-- the k-th of all signs, as it stands -/
theorem dSs_at {H : Hp} {xs : List V} {n k : Nat} (h : TpAll H xs ((sgs n).map fun p => dS p.1 p.2)) (hk : k < 2 * n) : ∃ y, xs[k]? = some y ∧ Tp H y (dS (k / 2) (decide (k % 2 = 1))) := by
  refine h.get ?_
  rw [List.getElem?_map, sgs_at hk]
  rfl
theorem dSs_length {H : Hp} {xs : List V} {n : Nat} (h : TpAll H xs ((sgs n).map fun p => dS p.1 p.2)) : xs.length = 2 * n := by
  rw [h.length, List.length_map, sgs_length]

theorem sc_wrong_sign : FnScope ["many", "value", "number", "sign"] ["many", "value"] (defScope s_wrong_sign) := ⟨rfl, rfl, rfl, by decide +kernel, rfl, by decide +kernel, by decide +kernel⟩
def spWrong : Sp := fun vs H Q _ => ∃ (n : Nat) (v : V), vs = [.int (n : Int), v] ∧ Tp H v (dSs (sgs n)) ∧ ∀ H', Same H H' → Q .non H'
theorem ok_wrong_sign (T : Top K mg) : Ok P w K mg base 3 "wrong_sign" ["many", "value"] spWrong := by
  have G := ok_is_sign (P := P) (w := w) (base := base) T
  refine mk (T.at_ (st := s_wrong_sign) 4) sc_wrong_sign (fun _ _ _ _ _ _ us hl => match us, hl with | [_, _], _ => rfl) (fun vs H Q E h => ?_) fun cdv A outer s H vs Q E hr h => ?_
  · obtain ⟨n, v, rfl, _⟩ := h
    rfl
  obtain ⟨n, v, rfl, hv, q⟩ := h
  obtain ⟨a, xs, rfl, ha, hxs⟩ := hv.tupE
  refine ⟨_, pss_cons (ps_for PassesOwn.never rfl (pi_enT T.enumerate (pa_cons (pv 1) pa_nil)) (pg_tup rfl (pgs_cons (pg_name (i := 2) sc_wrong_sign.nd rfl (Or.inl rfl)) (pgs_cons (pg_name (i := 3) sc_wrong_sign.nd rfl (Or.inl rfl)) pgs_nil)))
    (pss_one (ps_if (PW.pt (pw_or (pt_not (pt_val (pc G hr (pa_cons (pv 0) (pa_cons (pv 3) pa_nil))))) (pw_or1 (PW.pt (pw_and (pt_cmpR op_gt (pv 2) pe_int (nomark _)) (pw_and1 (pt_cmpR (opGe2 K hr) (pIx K (pv 1) (pe_op op_sub (pv 2) pe_int)) (pv 3) (nomark _))))))))
      (pss_one (ps_ret (pv 2))) pss_nil))) (pss_one (ps_ret pe_non)), ?_⟩
  refine ⟨_, rfl, a, xs, rfl, SqT.of ha, for_it walk_enT (fun i σ H' => Same H H' ∧ ∃ x y, σ = [some (.int (n : Int)), some (.ref a), x, y]) ⟨Same.refl H, _, _, rfl⟩ (fun i σ H' _ h => SqT.of (h.1 _ _ ha)) (fun i x σ H1 H2 hi h y => ?_) fun σ H' h => q H' h.1⟩
  obtain ⟨g1, x0, y0, rfl⟩ := h
  obtain ⟨t, x1, y1, rfl, ht, rfl, e1, e2⟩ := y
  cases e1
  have hlen := dSs_length hxs
  have hi2 : i < 2 * n := by omega
  obtain ⟨y2, e3, h2⟩ := dSs_at hxs hi2
  have e4 : y1 = y2 := Option.some.inj (e2.symm.trans e3)
  subst e4
  have g2 : Same H (upd H1 t (.tup [.int (i : Nat), y1])) := g1.trans (sNew ht)
  refine ⟨t, _, rfl, SqT.of upd_same, rfl, _, _, rfl, _, _, rfl, rfl, ?_⟩
  refine ⟨_, rfl, _, rfl, n, i / 2, decide (i % 2 = 1), y1, rfl, tpS g2 h2, by omega, true, rfl, iteF ?_⟩
  refine ⟨_, rfl, _, _, rfl, rfl, _, rfl, ite2 (fun c => ?_) fun c => ?_⟩
  · have c1 : (0 : Int) < (i : Int) := of_decide_eq_true c
    obtain ⟨y3, e5, h3⟩ := dSs_at hxs (k := i - 1) (by omega)
    obtain ⟨p3, u3, w3, rfl, k3, k4, k5⟩ := h3.two
    obtain ⟨p1, u1, w1, rfl, k6, k7, k8⟩ := h2.two
    cases k4
    cases k5
    cases k7
    cases k8
    have ei : (i : Int) - 1 = ((i - 1 : Nat) : Int) := by omega
    refine ⟨_, rfl, _, rfl, _, _, rfl, rfl, a, xs, _, .ref p3, rfl, rfl, SqT.of (g2 _ _ ha), (by show atI xs ((i : Int) - 1) = _; rw [ei]; exact atI_nat e5), _, rfl, p3, p1, _, _, _, _, rfl, rfl, SqT.of (g2 _ _ k3), SqT.of (g2 _ _ k6), _, rfl, ?_⟩
    have no : (if (((i - 1) / 2 : Nat) : Int) = ((i / 2 : Nat) : Int) then decide ((b2n (decide (i % 2 = 1)) : Int) ≤ (b2n (decide ((i - 1) % 2 = 1)) : Int)) else decide (((i / 2 : Nat) : Int) ≤ (((i - 1) / 2 : Nat) : Int))) = false := by
      by_cases z : i % 2 = 1
      · have z1 : (i - 1) / 2 = i / 2 := by omega
        have z2 : ¬ (i - 1) % 2 = 1 := by omega
        rw [z1, if_pos rfl, decide_eq_true z, decide_eq_false z2]
        decide
      · have z1 : ¬ (((i - 1) / 2 : Nat) : Int) = ((i / 2 : Nat) : Int) := by omega
        rw [if_neg z1]
        exact decide_eq_false (by omega)
    rw [no]
    exact iteF ⟨g2, _, _, rfl⟩
  · exact iteF ⟨g2, _, _, rfl⟩

theorem sc_is_set : FnScope ["value", "size", "item", "near", "far"] ["value", "size"] (defScope s_is_set) := ⟨rfl, rfl, rfl, by decide +kernel, rfl, by decide +kernel, by decide +kernel⟩
/-- a lot of one row is one -/
def spSet : Sp := fun vs H Q _ => ∃ (m k : Int) (v : V), vs = [v, .int m] ∧ Tp H v (dI [k]) ∧ 0 ≤ k ∧ k < m ∧ ∀ H', Same H H' → Q (.bl true) H'
theorem ok_is_set (T : Top K mg) : Ok P w K mg base 2 "is_set" ["value", "size"] spSet := by
  have G := ok_is_from (P := P) (w := w) (base := base) T
  refine mk (T.at_ (st := s_is_set) 1) sc_is_set (fun _ _ _ _ _ _ us hl => match us, hl with | [_, _], _ => rfl) (fun vs H Q E h => ?_) fun cdv A outer s H vs Q E hr h => ?_
  · obtain ⟨m, k, v, rfl, _⟩ := h
    rfl
  obtain ⟨m, k, v, rfl, hv, h0, h1, q⟩ := h
  obtain ⟨a, xs, rfl, ha, hxs⟩ := hv.tupE
  have exs : xs = [.int k] := ofInts (ns := [k]) hxs
  subst exs
  refine ⟨_, pss_cons (ps_if (PW.pt (pw_or (pt_not (pt_val (pIsi K T.isinstance (pv 0) T.tuple PyProof.Rows.boot_tuple))) (pw_or1 (pt_cmpR op_gt (pLen K T.len (pe_lc (own := [("item", 2)]) (g := gName 2) rfl sc_is_set.nd (pi_tup (pv 0)) (blkOk_by (N := ["value", "size", "item", "near", "far"]) (sc := defScope s_is_set) (by decide +kernel))
      (fun _ _ _ _ _ => pg_name (i := 2) sc_is_set.nd rfl (Or.inl rfl)) (fun _ _ _ _ _ => pts_one (pt_not (pt_val (pc G hr (pa_cons (pv 2) (pa_cons pe_int (pa_cons (pe_op op_sub (pv 1) pe_int) pa_nil))))))) (fun _ _ _ _ _ => pe_int))) pe_int (nomark _))))) (pss_one (ps_ret pe_bl)) pss_nil)
    (pss_one (ps_ret (pe_cmpR op_eq (pLen K T.len (pe_lc (own := [("near", 3), ("far", 4)]) (g := gTup K 2 (gCons (gName 3) (gCons (gName 4) gNil))) rfl sc_is_set.nd (RZ.pi_zipA (by rfl) T.zip (pa_cons (pv 0) (pa_cons (pe_slice sl_tup (pv 0) (po_some pe_int) po_none) pa_nil))) (blkOk_by (N := ["value", "size", "item", "near", "far"]) (sc := defScope s_is_set) (by decide +kernel))
      (fun _ _ _ _ _ => pg_tup rfl (pgs_cons (pg_name (i := 3) sc_is_set.nd rfl (Or.inl rfl)) (pgs_cons (pg_name (i := 4) sc_is_set.nd rfl (Or.inl rfl)) pgs_nil))) (fun _ _ _ _ _ => pts_one (pt_cmpR op_ge (pv 3) (pv 4) (nomark _))) (fun _ _ _ _ _ => pe_int))) pe_int (nomark _)))), ?_⟩
  refine ⟨_, rfl, _, _, _, _, _, rfl, .ty _, .base (.tup ha), kit_ty kitTup, true, rfl, iteF ?_⟩
  refine ⟨_, rfl, a, rfl, ⟨_, SqT.of ha⟩, fun D hD => lc_tup (fun i H' => Same H H' ∧ H' D = some (.lst [])) ⟨sNew hD, upd_same⟩ (fun i H' _ h => SqT.of (h.1 _ _ ha)) (fun i x H' e h => ?_) fun H' h => ?_⟩
  · have ex : x = .int k := by
      match i, e with
      | 0, e => exact (Option.some.inj e).symm
      | i + 1, e => simp at e
    subst ex
    refine ⟨rfl, ?_⟩
    refine ⟨_, rfl, _, rfl, _, _, rfl, rfl, k, 0, m - 1, rfl, _, rfl, ?_⟩
    have e1 : decide ((0 : Int) ≤ k ∧ k ≤ m - 1) = true := decide_eq_true (by omega)
    show if (!decide ((0 : Int) ≤ k ∧ k ≤ m - 1)) = true then _ else _
    rw [e1]
    exact iteF h
  · obtain ⟨g1, hD1⟩ := h
    refine ⟨D, [], rfl, .inl (SqL.of hD1), _, _, rfl, rfl, _, rfl, iteF ?_⟩
    have a1 := g1 _ _ ha
    refine ⟨_, rfl, _, rfl, _, rfl, a, _, rfl, SqT.of a1, (by show ¬ (HT.sIx 1 0 (some 1) = 0 ∧ HT.sIx 1 1 none = 1); decide), fun p hp => ?_⟩
    refine ⟨a, p, _, _, rfl, .inr ⟨SqT.of (sNew hp _ _ a1), SqT.of upd_same, fun D2 hD2 => ?_⟩⟩
    have g2 : Same H (upd H' p (.tup (cutV [V.int k] (some 1) none))) := g1.trans (sNew hp)
    refine ⟨fun i m H2 => i = 0 ∧ Same H H2 ∧ H2 D2 = some (.lst []) ∧ H2 p = some (.tup []), ⟨0, rfl, g2.trans (sNew hD2), upd_same, ?_⟩, fun i m H2 h2 => ?_⟩
    · rw [upd_ne (ne_of_none upd_same hD2), upd_same] <;> rfl
    · obtain ⟨rfl, g3, d3, p3⟩ := h2
      refine .inl ⟨⟨[.int k], [], SqT.of (g3 _ _ ha), SqT.of p3, .inr (Nat.le_refl _)⟩, ?_⟩
      refine ⟨D2, [], rfl, .inl (SqL.of d3), rfl, ?_⟩
      exact q _ g3

abbrev n_check_question : List Str := ["value", "many", "signs", "yes", "no", "wrong", "place", "lot", "row"]
theorem sc_check_question : FnScope n_check_question ["value"] (defScope s_check_question) := ⟨rfl, rfl, rfl, by decide +kernel, rfl, by decide +kernel, by decide +kernel⟩
/-- a question of all signs, the rows 0 and 1 -/
def spQuest : Sp := fun vs H Q _ => ∃ (n : Nat) (v : V), vs = [v] ∧ Tp H v (dQ n [0] [1]) ∧ 1 ≤ n ∧ n ≤ 8 ∧ ∀ H', Same H H' → Q v H'
theorem ok_check_question (T : Top K mg) : Ok P w K mg base 4 "check_question" ["value"] spQuest := by
  have G_is_from := ok_is_from (P := P) (w := w) (base := base) T
  have G_wrong_sign := ok_wrong_sign (P := P) (w := w) (base := base) T
  have G_is_set := ok_is_set (P := P) (w := w) (base := base) T
  obtain ⟨tw, mt, ht⟩ := T.twos
  refine mk (T.at_ (st := s_check_question) 5) sc_check_question (fun _ _ _ _ _ _ us hl => match us, hl with | [_], _ => rfl) (fun vs H Q E h => ?_) fun cdv A outer s H vs Q E hr h => ?_
  · obtain ⟨n, v, rfl, _⟩ := h
    rfl
  obtain ⟨n, v, rfl, hv, h1, h8, q⟩ := h
  obtain ⟨a, x1, x2, x3, x4, rfl, ha, t1, t2, t3, t4⟩ := hv.four
  have e1 := t1.intE
  subst e1
  refine ⟨_, pss_cons (ps_if (PW.pt (pw_or (pt_not (pt_val (pIsi K T.isinstance (pv 0) T.tuple PyProof.Rows.boot_tuple))) (pw_or1 (pt_cmpR op_ne (pLen K T.len (pv 0)) pe_int (nomark _))))) (pss_one ps_never) pss_nil)
    <| pss_cons (ps_asg (pv 0) (pg_tup rfl (pgs_cons (pg_name (i := 1) sc_check_question.nd rfl (Or.inl rfl)) (pgs_cons (pg_name (i := 2) sc_check_question.nd rfl (Or.inl rfl)) (pgs_cons (pg_name (i := 3) sc_check_question.nd rfl (Or.inl rfl)) (pgs_cons (pg_name (i := 4) sc_check_question.nd rfl (Or.inr rfl)) pgs_nil))))))
    <| pss_cons (ps_if (pt_not (pt_val (pc G_is_from hr (pa_cons (pv 1) (pa_cons pe_int (pa_cons (pgi T.mq) pa_nil)))))) (pss_one ps_never) pss_nil)
    <| pss_cons (ps_if (pt_not (pt_val (pIsi K T.isinstance (pv 2) T.tuple PyProof.Rows.boot_tuple))) (pss_one ps_never) pss_nil)
    <| pss_cons (ps_set (i := 5) sc_check_question.nd rfl (Or.inl rfl) (pc G_wrong_sign hr (pa_cons (pv 1) (pa_cons (pv 2) pa_nil))))
    <| pss_cons (ps_if (pt_cmpR op_notN (pv 5) pe_non (nomark _)) (pss_one ps_never) pss_nil)
    <| pss_cons (ps_for PassesOwn.never rfl (pi_tup (pe_tup (pa_cons (pe_tup (pa_cons pe_int (pa_cons (pv 3) pa_nil))) (pa_cons (pe_tup (pa_cons pe_int (pa_cons (pv 4) pa_nil))) pa_nil)))) (pg_tup rfl (pgs_cons (pg_name (i := 6) sc_check_question.nd rfl (Or.inl rfl)) (pgs_cons (pg_name (i := 7) sc_check_question.nd rfl (Or.inl rfl)) pgs_nil))) (pss_one (ps_if (PW.pt (pw_or (pt_not (pt_val (pc G_is_set hr (pa_cons (pv 7) (pa_cons (pIx K (pTwos mt) (pv 1)) pa_nil))))) (pw_or1 (pt_cmpR op_eq (pLen K T.len (pv 7)) pe_int (nomark _))))) (pss_one ps_never) pss_nil)))
    <| pss_cons (ps_if (pt_cmpR op_gt (pLen K T.len (pe_lc (own := [("row", 8)]) (g := gName 8) rfl sc_check_question.nd (pi_tup (pv 3)) (blkOk_by (N := n_check_question) (sc := defScope s_check_question) (by decide +kernel)) (fun _ _ _ _ _ => (pg_name (i := 8) sc_check_question.nd rfl (Or.inl rfl))) (fun _ _ _ _ _ => (pts_one (pt_cmpR (opIn K) (pv 8) (pv 4) (by rfl)))) (fun _ _ _ _ _ => pe_int))) pe_int (nomark _)) (pss_one ps_never) pss_nil)
    <| pss_one (ps_ret (pv 0)), ?_⟩
  obtain ⟨a2, xs2, rfl, ha2, hxs2⟩ := id t2.tupE
  obtain ⟨a3, xs3, rfl, ha3, hxs3⟩ := id t3.tupE
  obtain ⟨a4, xs4, rfl, ha4, hxs4⟩ := id t4.tupE
  have e3 : xs3 = [.int 0] := ofInts (ns := [0]) hxs3
  have e4 : xs4 = [.int 1] := ofInts (ns := [1]) hxs4
  subst e3 e4
  refine ⟨_, rfl, _, _, _, _, _, rfl, .ty _, .base (.tup ha), kit_ty kitTup, true, rfl, iteF ?_⟩
  refine ⟨_, rfl, a, _, rfl, .inr (SqT.of ha), rfl, _, rfl, iteF ?_⟩
  refine ⟨_, rfl, a, _, rfl, SqT.of ha, rfl, _, _, rfl, _, _, rfl, _, _, rfl, _, _, rfl, rfl, ?_⟩
  refine ⟨_, rfl, (n : Int), 1, 8, rfl, _, rfl, ?_⟩
  have c1 : decide ((1 : Int) ≤ (n : Int) ∧ (n : Int) ≤ 8) = true := decide_eq_true (by omega)
  show if (!decide ((1 : Int) ≤ (n : Int) ∧ (n : Int) ≤ 8)) = true then _ else _
  rw [c1]
  refine iteF ?_
  refine ⟨_, rfl, _, _, _, _, _, rfl, .ty _, .base (.tup ha2), kit_ty kitTup, true, rfl, iteF ?_⟩
  refine ⟨_, rfl, _, rfl, n, _, rfl, t2, fun H1 g1 => ?_⟩
  refine ⟨_, rfl, rfl, _, rfl, iteF ?_⟩
  refine ⟨_, rfl, sz (by show 2 ≤ 100000; decide), fun p1 hp1 => ⟨_, rfl, sz (by show 2 ≤ 100000; decide), fun p2 hp2 => ⟨sz (by show 2 ≤ 100000; decide), fun p3 hp3 => ⟨p3, rfl, ⟨_, SqT.of upd_same⟩, ?_⟩⟩⟩⟩
  have g2 : Same H (upd (upd (upd H1 p1 (.tup [.int 2, .ref a3])) p2 (.tup [.int 3, .ref a4])) p3 (.tup [.ref p1, .ref p2])) := g1.trans ((sNew hp1).trans ((sNew hp2).trans (sNew hp3)))
  have k1 : (upd (upd (upd H1 p1 (.tup [.int 2, .ref a3])) p2 (.tup [.int 3, .ref a4])) p3 (.tup [.ref p1, .ref p2])) p1 = some (.tup [.int 2, .ref a3]) := (sNew hp3) _ _ ((sNew hp2) _ _ upd_same)
  have k2 : (upd (upd (upd H1 p1 (.tup [.int 2, .ref a3])) p2 (.tup [.int 3, .ref a4])) p3 (.tup [.ref p1, .ref p2])) p2 = some (.tup [.int 3, .ref a4]) := (sNew hp3) _ _ upd_same
  generalize hG : upd (upd (upd H1 p1 (.tup [.int 2, .ref a3])) p2 (.tup [.int 3, .ref a4])) p3 (.tup [.ref p1, .ref p2]) = HG at g2 k1 k2
  have k3 : HG p3 = some (.tup [.ref p1, .ref p2]) := by rw [← hG]; exact upd_same
  refine for_tup (fun i σ H' => Same HG H' ∧ ∃ x y, σ = [some (.ref a), some (.int (n : Int)), some (.ref a2), some (.ref a3), some (.ref a4), some .non, x, y, none]) ⟨Same.refl _, _, _, rfl⟩ (fun i σ H' _ h => SqT.of (h.1 _ _ k3)) (fun i x_1 σ H' e h => ?_) fun σ H' h => ?_
  · obtain ⟨g3, x, y, rfl⟩ := h
    have pn2 : 2 ≤ 2 ^ n := by
      have z := Nat.pow_le_pow_right (n := 2) (by decide) h1
      simpa using z
    obtain ⟨p5, a5, m, k, rfl, z1, z2, z3, z4⟩ : ∃ (p5 a5 : Addr) (m k : Int), x_1 = .ref p5 ∧ HG p5 = some (.tup [.int m, .ref a5]) ∧ H a5 = some (.tup [.int k]) ∧ 0 ≤ k ∧ k < ((2 ^ n : Nat) : Int) := by
      match i, e with
      | 0, e => exact ⟨p1, a3, 2, 0, (Option.some.inj e).symm, k1, ha3, by omega, by omega⟩
      | 1, e => exact ⟨p2, a4, 3, 1, (Option.some.inj e).symm, k2, ha4, by omega, by omega⟩
      | i + 2, e => simp at e
    refine ⟨p5, _, rfl, SqT.of (g3 _ _ z1), rfl, _, _, rfl, _, _, rfl, rfl, ?_⟩
    refine ⟨_, rfl, _, rfl, tw, _, _, _, rfl, rfl, ht _, atI_nat (twos_at h8), ((2 ^ n : Nat) : Int), k, .ref a5, rfl, .tup (g3 _ _ (g2 _ _ z2)) (tpInts [k]), z3, z4, fun H6 g6 => ⟨true, rfl, iteF ?_⟩⟩
    exact ⟨_, rfl, a5, [.int k], rfl, .inr (SqT.of (g6 _ _ (g3 _ _ (g2 _ _ z2)))), rfl, _, rfl, iteF ⟨g3.trans g6, _, _, rfl⟩⟩
  · obtain ⟨g3, x, y, rfl⟩ := h
    have g4 := g2.trans g3
    refine ⟨_, rfl, a3, rfl, ⟨_, SqT.of (g4 _ _ ha3)⟩, fun D hD => lc_tup (fun i H5 => Same H' H5 ∧ H5 D = some (.lst [])) ⟨sNew hD, upd_same⟩ (fun i H5 _ h => SqT.of (h.1 _ _ (g4 _ _ ha3))) (fun i x H5 e h => ?_) fun H5 h => ?_⟩
    · have ex : x = .int 0 := by
        match i, e with
        | 0, e => exact (Option.some.inj e).symm
        | i + 1, e => simp at e
      subst ex
      refine ⟨rfl, _, rfl, _, rfl, a4, [.int 1], rfl, .inr (SqT.of (h.1 _ _ (g4 _ _ ha4))), rfl, rfl, _, rfl, iteF h⟩
    · refine ⟨D, [], rfl, .inl (SqL.of h.2), _, _, rfl, rfl, _, rfl, iteF ?_⟩
      exact ⟨_, rfl, q _ (g4.trans h.1)⟩
end
end Sb


namespace Sb
open PySem PySem.Spec
open PyProof.Rows L2
section
variable {P : Program} {w : World} {K : PySem.W.Frag} {mg : Str → Option Value} {base : Heap}

/-! ### formulas as data -/
def Fm.isBin : Fm → Bool
  | .sg _ _ => false
  | .bin _ _ _ => true
/-- signs and words -/
def Fm.thg : Fm → Nat
  | .sg _ _ => 1
  | .bin _ a b => 1 + thg a + thg b
theorem Fm.thg_lvs : ∀ f : Fm, f.thg + 1 = 2 * f.lvs
  | .sg _ _ => rfl
  | .bin _ a b => by
    have h1 := thg_lvs a
    have h2 := thg_lvs b
    show 1 + thg a + thg b + 1 = 2 * (lvs a + lvs b)
    omega
theorem wd_or (o : Bool) : decide (V.str (wd o) = V.str "or") = o := by cases o <;> decide +kernel
theorem wd_and (o : Bool) : decide (V.str (wd o) = V.str "and") = !o := by cases o <;> decide +kernel
theorem int_or (i : Int) (x : Str) : decide (V.int i = V.str x) = false := decide_eq_false (fun z => nomatch z)
theorem Tp.sgE {H : Hp} {v : V} {i : Nat} {b : Bool} (h : Tp H v (dF (.sg i b))) : ∃ a, v = .ref a ∧ H a = some (.tup [.int (i : Int), .int (b2n b : Int)]) := by
  obtain ⟨a, x, y, rfl, ha, hx, hy⟩ := Tp.two (show Tp H v (dS i b) from h)
  rw [hx.intE, hy.intE] at ha
  exact ⟨a, rfl, ha⟩
theorem Tp.binE {H : Hp} {v : V} {o : Bool} {f g : Fm} (h : Tp H v (dF (.bin o f g))) : ∃ a x y, v = .ref a ∧ H a = some (.tup [.str (wd o), x, y]) ∧ Tp H x (dF f) ∧ Tp H y (dF g) := by
  obtain ⟨a, z, x, y, rfl, ha, hz, hx, hy⟩ := Tp.three (show Tp H v (.tuple [.str (wd o), dF f, dF g]) from h)
  rw [hz.strE] at ha
  exact ⟨a, x, y, rfl, ha, hx, hy⟩
theorem Tp.bin {H : Hp} {a : Addr} {o : Bool} {f g : Fm} {x y : V} (ha : H a = some (.tup [.str (wd o), x, y])) (hx : Tp H x (dF f)) (hy : Tp H y (dF g)) : Tp H (.ref a) (dF (.bin o f g)) :=
  .tup ha (.cons (.str _) (.cons hx (.cons hy .nil)))

abbrev n_is_joined : List Str := ["value"]
theorem sc_is_joined : FnScope n_is_joined ["value"] (defScope s_is_joined) := ⟨rfl, rfl, rfl, by decide +kernel, rfl, by decide +kernel, by decide +kernel⟩
def spJoined : Sp := fun vs H Q _ => ∃ (f : Fm) (v : V), vs = [v] ∧ Tp H v (dF f) ∧ Q (.bl f.isBin) H
theorem ok_is_joined (T : Top K mg) : Ok P w K mg base 1 "is_joined" ["value"] spJoined := by
  obtain ⟨wa, mw, hw⟩ := T.words
  refine mk (T.at_ (st := s_is_joined) 10) sc_is_joined (fun _ _ _ _ _ _ us hl => match us, hl with | [_], _ => rfl) (fun vs H Q E h => ?_) fun cdv A outer s H vs Q E hr h => ?_
  · obtain ⟨f, v, rfl, _⟩ := h
    rfl
  obtain ⟨f, v, rfl, hv, q⟩ := h
  refine ⟨_, pss_cons (ps_if (PW.pt (pw_or (pt_not (pt_val (pIsi K T.isinstance (pv 0) T.tuple PyProof.Rows.boot_tuple))) (pw_or (pt_cmpR op_ne (pLen K T.len (pv 0)) pe_int (nomark _)) (pw_or1 (pt_not (pt_val (pIsi K T.isinstance (pIx K (pv 0) pe_int) T.str PyProof.Rows.boot_str))))))) (pss_one (ps_ret pe_bl)) pss_nil)
    <| pss_one (ps_ret (pe_cmpR (opIn K) (pIx K (pv 0) pe_int) (pWords mw) (by rfl))), ?_⟩
  cases f with
  | sg i b =>
    obtain ⟨a, rfl, ha⟩ := hv.sgE
    refine ⟨_, rfl, _, _, _, _, _, rfl, .ty _, .base (.tup ha), kit_ty kitTup, true, rfl, iteF ?_⟩
    exact ⟨_, rfl, a, _, rfl, .inr (SqT.of ha), rfl, _, rfl, iteT (iteT q)⟩
  | bin o f g =>
    obtain ⟨a, x, y, rfl, ha, hx, hy⟩ := hv.binE
    refine ⟨_, rfl, _, _, _, _, _, rfl, .ty _, .base (.tup ha), kit_ty kitTup, true, rfl, iteF ?_⟩
    refine ⟨_, rfl, a, _, rfl, .inr (SqT.of ha), rfl, _, rfl, iteF ?_⟩
    refine ⟨_, rfl, a, _, _, _, rfl, rfl, SqT.of ha, rfl, _, _, _, _, _, rfl, .ty _, .base (.str _), kit_ty kitStr, true, rfl, iteF ?_⟩
    refine ⟨_, rfl, a, _, _, _, rfl, rfl, SqT.of ha, rfl, wa, _, rfl, .inr (hw H), rfl, rfl, ?_⟩
    have e : inV (.str (wd o)) [.str "or", .str "and"] = true := by cases o <;> decide +kernel
    show Q (.bl (inV (.str (wd o)) [.str "or", .str "and"])) H
    rw [e]
    exact q

/-! ### check_formula: the stack of things -/
theorem sUp {H H' : Hp} {l : Addr} {o : HO} (e : Same H H') (h : H l = none) : Same H (upd H' l o) := fun a u ha => by
  rw [upd_ne (ne_of_none ha h)]
  exact e a u ha
theorem ktL {H : Hp} {l : Addr} {xs ys : List V} (h : H l = some (.lst xs)) : KT H (upd H l (.lst ys)) := fun a u ha => by
  rw [upd_ne (ne_of ha h (by intro z; cases z))]
  exact ha
/-- a thing with its path, the stack: its things' number -/
structure Item (n : Nat) (H : Hp) (t : Addr) (f : Fm) : Prop where
  ex : ∃ (v : V) (p : Addr) (ps : List V), H t = some (.tup [v, .ref p]) ∧ Tp H v (dF f) ∧ H p = some (.tup ps) ∧ ps.length + f.dep ≤ 60
  ok : f.ok n
inductive Stk (n : Nat) (H : Hp) : List V → Nat → Prop
  | nil : Stk n H [] 0
  | snoc {xs : List V} {k : Nat} {t : Addr} {f : Fm} : Stk n H xs k → Item n H t f → Stk n H (xs ++ [.ref t]) (k + f.thg)
theorem Item.mono {n : Nat} {H H' : Hp} (k : KT H H') {t : Addr} {f : Fm} (h : Item n H t f) : Item n H' t f := by
  obtain ⟨⟨v, p, ps, h1, h2, h3, h4⟩, h5⟩ := h
  exact ⟨⟨v, p, ps, k _ _ h1, tp k h2, k _ _ h3, h4⟩, h5⟩
theorem Stk.mono {n : Nat} {H H' : Hp} (k : KT H H') : ∀ {xs : List V} {m : Nat}, Stk n H xs m → Stk n H' xs m
  | _, _, .nil => .nil
  | _, _, .snoc a b => .snoc (a.mono k) (b.mono k)
theorem Stk.len {n : Nat} {H : Hp} : ∀ {xs : List V} {m : Nat}, Stk n H xs m → xs.length ≤ m
  | _, _, .nil => Nat.le_refl _
  | _, _, .snoc (f := f) a _ => by
    have h1 := a.len
    have h2 := f.thg_lvs
    have h3 := f.lvs_pos
    rw [List.length_append, List.length_singleton]
    omega
mutual
theorem eqv_refl : ∀ d : PyData, d.canLay0 = true → PyData.eqv d d = true
  | .none, _ => by simp only [PyData.eqv]
  | .bool _, _ => by simp only [PyData.eqv, beq_self_eq_true]
  | .int _, _ => by simp only [PyData.eqv, beq_self_eq_true]
  | .str _, _ => by simp only [PyData.eqv, beq_self_eq_true]
  | .list ds, h => by
    simp only [PyData.eqv]
    exact eqvAll_refl ds (by simpa only [PyData.canLay0] using h)
  | .tuple ds, h => by
    simp only [PyData.eqv]
    exact eqvAll_refl ds (by simpa only [PyData.canLay0] using h)
  | .dict _, h => by simp [PyData.canLay0] at h
theorem eqvAll_refl : ∀ ds : List PyData, PyData.canLayAll0 ds = true → PyData.eqvAll ds ds = true
  | [], _ => by simp only [PyData.eqvAll]
  | d :: ds, h => by
    have h2 : d.canLay0 = true ∧ PyData.canLayAll0 ds = true := by simpa [PyData.canLayAll0] using h
    simp only [PyData.eqvAll, eqv_refl d h2.1, eqvAll_refl ds h2.2, Bool.and_self]
end
theorem dS_lay (i : Nat) (b : Bool) : (dS i b).canLay0 = true := by simp [dS, PyData.canLay0, PyData.canLayAll0]
theorem dS_depth (i : Nat) (b : Bool) : (dS i b).depth ≤ 1 := by simp [dS, PyData.depth, PyData.depthAll]
theorem dS_shaped (i : Nat) (b : Bool) : SeqAt.shaped (dS i b) = true := by
  have h := dS_depth i b
  unfold SeqAt.shaped
  rw [dS_lay, Bool.true_and]
  exact decide_eq_true (by omega)
theorem all_lay : ∀ ds : List PyData, (∀ d ∈ ds, d.canLay0 = true) → PyData.canLayAll0 ds = true
  | [], _ => by simp only [PyData.canLayAll0]
  | d :: ds, h => by simp only [PyData.canLayAll0, h d List.mem_cons_self, all_lay ds fun e he => h e (List.mem_cons_of_mem _ he), Bool.and_self]
theorem all_depth {k : Nat} : ∀ ds : List PyData, (∀ d ∈ ds, d.depth ≤ k) → PyData.depthAll ds ≤ k
  | [], _ => by simp [PyData.depthAll]
  | d :: ds, h => by
    have h1 := h d List.mem_cons_self
    have h2 := all_depth ds fun e he => h e (List.mem_cons_of_mem _ he)
    simp only [PyData.depthAll]
    omega
theorem tup_shaped {ds : List PyData} (h1 : ∀ d ∈ ds, d.canLay0 = true) (h2 : ∀ d ∈ ds, d.depth ≤ 60) : SeqAt.shaped (.tuple ds) = true := by
  have a := all_lay ds h1
  have b := all_depth ds h2
  unfold SeqAt.shaped
  rw [Bool.and_eq_true]
  refine ⟨by simpa only [PyData.canLay0] using a, decide_eq_true ?_⟩
  simp only [PyData.depth]
  omega
theorem dSs_shaped (l : List (Nat × Bool)) : SeqAt.shaped (dSs l) = true := by
  refine tup_shaped (fun d hd => ?_) fun d hd => ?_
  · obtain ⟨p, _, rfl⟩ := List.mem_map.mp hd
    exact dS_lay _ _
  · obtain ⟨p, _, rfl⟩ := List.mem_map.mp hd
    have := dS_depth p.1 p.2
    omega
theorem sgs_mem {n i : Nat} {b : Bool} (h : i < n) : (i, b) ∈ sgs n := by
  unfold sgs
  refine List.mem_map.mpr ⟨2 * i + b2n b, List.mem_range.mpr ?_, ?_⟩
  · have := b2n_le b
    omega
  · have h1 : (2 * i + b2n b) / 2 = i := by have := b2n_le b; omega
    have h2 : (2 * i + b2n b) % 2 = b2n b := by have := b2n_le b; omega
    rw [h1, h2]
    cases b <;> rfl
theorem sgs_any {n i : Nat} {b : Bool} (h : i < n) : (((sgs n).map fun p => dS p.1 p.2).any fun z => PyData.eqv z (dS i b)) = true :=
  List.any_eq_true.mpr ⟨dS i b, List.mem_map.mpr ⟨(i, b), sgs_mem h, rfl⟩, eqv_refl _ (dS_lay i b)⟩

abbrev n_check_formula : List Str := ["question", "value", "left", "many", "thing", "path"]
theorem sc_check_formula : FnScope n_check_formula ["question", "value"] (defScope s_check_formula) := ⟨rfl, rfl, rfl, by decide +kernel, rfl, by decide +kernel, by decide +kernel⟩
def spCheck : Sp := fun vs H Q _ => ∃ (n : Nat) (f : Fm) (q v : V), vs = [q, v] ∧ Tp H q (dQ n [0] [1]) ∧ Tp H v (dF f) ∧ f.ok n ∧ f.lvs ≤ 200 ∧ f.dep ≤ 60 ∧ ∀ H', Same H H' → Q v H'
theorem ok_check_formula (T : Top K mg) : Ok P w K mg base 3 "check_formula" ["question", "value"] spCheck := by
  have G_is_joined := ok_is_joined (P := P) (w := w) (base := base) T
  have G_is_sign := ok_is_sign (P := P) (w := w) (base := base) T
  refine mk (T.at_ (st := s_check_formula) 11) sc_check_formula (fun _ _ _ _ _ _ us hl => match us, hl with | [_, _], _ => rfl) (fun vs H Q E h => ?_) fun cdv A outer s H vs Q E hr h => ?_
  · obtain ⟨n, f, q, v, rfl, _⟩ := h
    rfl
  obtain ⟨n, f, qv, v, rfl, hq, hv, ok, h200, h60, q⟩ := h
  obtain ⟨qa, q1, q2, q3, q4, rfl, hqa, t1, t2, t3, t4⟩ := hq.four
  have eq1 := t1.intE
  subst eq1
  refine ⟨_, pss_cons (ps_par (i := 2) (j := 3) (by rfl) sc_check_formula.nd rfl rfl (by decide) rfl rfl (pa_cons (pe_lst (pa_cons (pe_tup (pa_cons (pv 1) (pa_cons (pe_tup pa_nil) pa_nil))) pa_nil)) (pa_cons pe_int pa_nil)) (by rfl))
    <| pss_cons (ps_while PassesOwn.never (pt_cmpR op_gt (pLen K T.len (pv 2)) pe_int (nomark _)) (pss_cons (ps_asg (pe_bm0 PySem.F.plainAttrs_list PySem.F.slot_list_pop PySem.F.type_list_pop mt_pop (pv 2)) (pg_tup rfl (pgs_cons (pg_name (i := 4) sc_check_formula.nd rfl (Or.inl rfl)) (pgs_cons (pg_name (i := 5) sc_check_formula.nd rfl (Or.inl rfl)) pgs_nil)))) (pss_cons (ps_set (i := 3) sc_check_formula.nd rfl (Or.inl rfl) (pe_op op_add (pv 3) pe_int)) (pss_cons (ps_if (pt_cmpR op_gt (pv 3) (pgi T.tf) (nomark _)) (pss_one ps_never) pss_nil) (pss_one (ps_if (pt_val (pc G_is_joined hr (pa_cons (pv 4) pa_nil))) (pss_cons (ps_if (pt_cmpR op_eq (pLen K T.len (pv 5)) (pgi T.df) (nomark _)) (pss_one ps_never) pss_nil) (pss_one (ps_expr (pe_bm PySem.F.plainAttrs_list PySem.F.slot_list_extend PySem.F.type_list_extend mt_extend (pv 2) (pa_cons (pe_lst (pa_cons (pe_tup (pa_cons (pIx K (pv 4) pe_int) (pa_cons (pe_op (opCatA K) (pv 5) (pe_tup (pa_cons pe_int pa_nil))) pa_nil))) (pa_cons (pe_tup (pa_cons (pIx K (pv 4) pe_int) (pa_cons (pe_op (opCatA K) (pv 5) (pe_tup (pa_cons pe_int pa_nil))) pa_nil))) pa_nil))) pa_nil))))) (pss_one (ps_if (PW.pt (pw_or (pt_not (pt_val (pc G_is_sign hr (pa_cons (pIx K (pv 0) pe_int) (pa_cons (pv 4) pa_nil))))) (pw_or1 (pt_cmpR (opNoT K hr) (pv 4) (pIx K (pv 0) pe_int) (by rfl))))) (pss_one ps_never) pss_nil))))))))
    <| pss_one (ps_ret (pv 1)), ?_⟩
  refine ⟨_, rfl, sz (by show 0 ≤ 100000; decide), fun p0 hp0 => ⟨sz (by show 2 ≤ 100000; decide), fun p1 hp1 => ⟨sz (by show 1 ≤ 100000; decide), fun l hl => ⟨_, _, rfl, ?_⟩⟩⟩⟩
  have g0 : Same H (upd (upd H p0 (.tup [])) p1 (.tup [v, .ref p0])) := (sNew hp0).trans (sNew hp1)
  have k0 : (upd (upd H p0 (.tup [])) p1 (.tup [v, .ref p0])) p0 = some (.tup []) := sNew hp1 _ _ upd_same
  have k1 : (upd (upd H p0 (.tup [])) p1 (.tup [v, .ref p0])) p1 = some (.tup [v, .ref p0]) := upd_same
  generalize upd (upd H p0 (.tup [])) p1 (.tup [v, .ref p0]) = H1 at hl g0 k0 k1
  have hHl : H l = none := g0.free hl
  have thn := f.thg_lvs
  refine ⟨fun m σ H' => Same H H' ∧ ∃ (xs : List V) (c : Nat) (x y : Option V), σ = [some (.ref qa), some v, some (.ref l), some (.int (c : Int)), x, y] ∧ H' l = some (.lst xs) ∧ Stk n H' xs m ∧ c + m ≤ 399,
    ⟨f.thg, g0.trans (sNew hl), [.ref p1], 0, none, none, rfl, upd_same, ?_, by omega⟩, fun m σ H' hW => ?_⟩
  · have z := Stk.snoc (n := n) (H := upd H1 l (.lst [.ref p1])) .nil (t := p1) (f := f) ⟨⟨v, p0, [], sNew hl _ _ k1, tpS (g0.trans (sNew hl)) hv, sNew hl _ _ k0, by show 0 + f.dep ≤ 60; omega⟩, ok⟩
    simpa using z
  obtain ⟨g, xs, c, x, y, rfl, hL, stk, hc⟩ := hW
  refine ⟨_, rfl, l, xs, rfl, .inl (SqL.of hL), _, _, rfl, rfl, _, rfl, ite2 (fun b => ?_) fun b => ?_⟩
  · cases stk with
    | nil => exact absurd b (by simp)
    | snoc rest it =>
      rename_i xs k t G
      obtain ⟨⟨gv, p, ps, it1, it2, it3, it4⟩, gok⟩ := it
      have gth := G.thg_lvs
      have glv := G.lvs_pos
      refine ⟨fun σ' H'' => ∃ m', m' < k + G.thg ∧ (Same H H'' ∧ ∃ (xs : List V) (c : Nat) (x y : Option V), σ' = [some (.ref qa), some v, some (.ref l), some (.int (c : Int)), x, y] ∧ H'' l = some (.lst xs) ∧ Stk n H'' xs m' ∧ c + m' ≤ 399), fun σ' H'' z => z, ?_⟩
      -- thing, path = left.pop()
      refine ⟨_, rfl, .inl ⟨rfl, _, SqL.of hL⟩, l, _, .ref t, rfl, rfl, hL, (by simp), t, [gv, .ref p], rfl, ?_⟩
      have gL : KT H' (upd H' l (.lst (xs ++ [V.ref t]).dropLast)) := ktL hL
      have edl : (xs ++ [V.ref t]).dropLast = xs := by simp
      rw [edl] at gL ⊢
      have g2 : Same H (upd H' l (.lst xs)) := sUp g hHl
      have j1 := gL _ _ it1
      have j2 := tp gL it2
      have j3 := gL _ _ it3
      have stk2 := rest.mono gL
      have hL2 : (upd H' l (.lst xs)) l = some (.lst xs) := upd_same
      generalize upd H' l (.lst xs) = H2 at g2 j1 j2 j3 stk2 hL2
      refine ⟨SqT.of j1, rfl, _, _, rfl, _, _, rfl, rfl, ?_⟩
      -- many = many + 1, the test
      refine ⟨_, rfl, _, _, rfl, rfl, ?_⟩
      refine ⟨_, rfl, _, _, rfl, rfl, _, rfl, ?_⟩
      have c1 : decide ((400 : Int) < (c : Int) + 1) = false := decide_eq_false (by omega)
      show if decide ((400 : Int) < (c : Int) + 1) = true then _ else _
      rw [c1]
      refine iteF ?_
      refine ⟨_, rfl, G, gv, rfl, j2, _, rfl, ?_⟩
      have cI : (c : Int) + 1 = ((c + 1 : Nat) : Int) := by omega
      cases G with
      | bin o f1 f2 =>
        obtain ⟨a, y1, y2, rfl, ha, d1, d2⟩ := j2.binE
        refine iteT ?_
        have dd : Fm.dep (.bin o f1 f2) = 1 + max f1.dep f2.dep := rfl
        have tt : Fm.thg (.bin o f1 f2) = 1 + f1.thg + f2.thg := rfl
        refine ⟨_, rfl, p, ps, rfl, .inr (SqT.of j3), rfl, _, rfl, ?_⟩
        have c2 : decide (V.int (ps.length : Int) = V.int 60) = false := decide_eq_false (fun z => by
          have z2 : (ps.length : Int) = 60 := V.int.inj z
          omega)
        rw [c2]
        refine iteF ?_
        refine ⟨_, rfl, .inl ⟨rfl, _, SqL.of hL2⟩, ?_⟩
        -- (thing[2], path + (2,)), (thing[1], path + (1,))
        refine ⟨_, rfl, a, _, _, _, rfl, rfl, SqT.of ha, rfl, _, rfl, sz (by show 1 ≤ 100000; decide), fun r1 hr1 => ?_⟩
        have lps : ps.length ≤ 60 := by omega
        have cat : ∀ (H3 : Hp) (rr : Addr) (z : Int) (Qz : V → Hp → Prop), H3 p = some (.tup ps) → H3 rr = some (.tup [.int z]) →
            (∀ (r : Addr) (H4 : Hp), Same H3 H4 → H4 r = some (.tup (ps ++ [.int z])) → Qz (.ref r) H4) → rCatA K (.ref p) (.ref rr) H3 Qz := fun H3 rr z Qz e1 e2 e3 => by
          refine ⟨p, rr, ps, _, rfl, rfl, SqT.of e1, SqT.of e2, sz (by show ps.length + 1 ≤ 100000; omega), fun en => ?_, fun _ en => (by cases en), fun _ _ r hr => ?_⟩
          · exact e3 rr H3 (Same.refl _) (by rw [e2, en] <;> rfl)
          · exact e3 r _ (sNew hr) upd_same
        refine cat _ r1 2 _ (sNew hr1 _ _ j3) upd_same fun r2 H3 s3 w3 => ?_
        refine ⟨sz (by show 2 ≤ 100000; decide), fun r4 hr4 => ?_⟩
        have a1 : Same H2 (upd H3 r4 (.tup [y2, .ref r2])) := (sNew hr1).trans (s3.trans (sNew hr4))
        have b1 : (upd H3 r4 (.tup [y2, .ref r2])) r4 = some (.tup [y2, .ref r2]) := upd_same
        have b2 : (upd H3 r4 (.tup [y2, .ref r2])) r2 = some (.tup (ps ++ [.int 2])) := sNew hr4 _ _ w3
        generalize upd H3 r4 (.tup [y2, .ref r2]) = H4 at a1 b1 b2
        refine ⟨_, rfl, a, _, _, _, rfl, rfl, SqT.of (a1 _ _ ha), rfl, _, rfl, sz (by show 1 ≤ 100000; decide), fun r5 hr5 => ?_⟩
        refine cat _ r5 1 _ (sNew hr5 _ _ (a1 _ _ j3)) upd_same fun r6 H5 s5 w5 => ?_
        refine ⟨sz (by show 2 ≤ 100000; decide), fun r7 hr7 => ?_⟩
        have a2 : Same H4 (upd H5 r7 (.tup [y1, .ref r6])) := (sNew hr5).trans (s5.trans (sNew hr7))
        have b3 : (upd H5 r7 (.tup [y1, .ref r6])) r7 = some (.tup [y1, .ref r6]) := upd_same
        have b4 : (upd H5 r7 (.tup [y1, .ref r6])) r6 = some (.tup (ps ++ [.int 1])) := sNew hr7 _ _ w5
        generalize upd H5 r7 (.tup [y1, .ref r6]) = H6 at a2 b3 b4
        refine ⟨sz (by show 2 ≤ 100000; decide), fun r8 hr8 => ?_⟩
        have a3 : Same H2 (upd H6 r8 (.lst [.ref r4, .ref r7])) := a1.trans (a2.trans (sNew hr8))
        have hL3 := a3 _ _ hL2
        have lx := stk2.len
        refine ⟨l, r8, xs, _, rfl, rfl, hL3, upd_same, sz (by show xs.length + 2 ≤ 100000; omega), ?_⟩
        have kk : KT H2 (upd (upd H6 r8 (.lst [.ref r4, .ref r7])) l (.lst (xs ++ [.ref r4, .ref r7]))) := (kt a3).trans (ktL hL3)
        have kA : KT H6 (upd (upd H6 r8 (.lst [.ref r4, .ref r7])) l (.lst (xs ++ [.ref r4, .ref r7]))) := (kt (sNew hr8)).trans (ktL hL3)
        have i2 : Item n (upd (upd H6 r8 (.lst [.ref r4, .ref r7])) l (.lst (xs ++ [.ref r4, .ref r7]))) r4 f2 :=
          ⟨⟨y2, r2, ps ++ [.int 2], kA _ _ (a2 _ _ b1), tp kk d2, kA _ _ (a2 _ _ b2), by rw [List.length_append, List.length_singleton]; omega⟩, gok.2⟩
        have i1 : Item n (upd (upd H6 r8 (.lst [.ref r4, .ref r7])) l (.lst (xs ++ [.ref r4, .ref r7]))) r7 f1 :=
          ⟨⟨y1, r6, ps ++ [.int 1], kA _ _ b3, tp kk d1, kA _ _ b4, by rw [List.length_append, List.length_singleton]; omega⟩, gok.1⟩
        refine ⟨k + f2.thg + f1.thg, by omega, sUp (g2.trans a3) hHl, xs ++ [.ref r4, .ref r7], c + 1, _, _, by rw [← cI] <;> rfl, upd_same, ?_, by omega⟩
        have z := Stk.snoc (Stk.snoc (stk2.mono kk) i2) i1
        simpa using z
      | sg i b =>
        refine iteF ?_
        have gi : i < n := gok
        refine ⟨_, rfl, qa, _, _, _, rfl, rfl, SqT.of (g2 _ _ hqa), rfl, _, rfl, n, i, b, gv, rfl, j2, gi, true, rfl, iteF ?_⟩
        refine ⟨_, rfl, _, rfl, qa, _, _, _, rfl, rfl, SqT.of (g2 _ _ hqa), rfl, dS i b, _, dp j2, dp (tpS g2 t2), dS_shaped _ _, dSs_shaped _, _, rfl, ?_⟩
        rw [sgs_any gi]
        refine iteF ?_
        exact ⟨k, by omega, g2, xs, c + 1, _, _, by rw [← cI] <;> rfl, hL2, stk2, by omega⟩
  · exact ⟨_, rfl, q _ g⟩
end
end Sb


namespace Sb
open PySem PySem.Spec
open PyProof.Rows L2
section
variable {P : Program} {w : World} {K : PySem.W.Frag} {mg : Str → Option Value} {base : Heap}

abbrev n_value_so : List Str := ["formula", "row"]
theorem sc_value_so : FnScope n_value_so ["formula", "row"] (defScope s_value_so) := ⟨rfl, rfl, rfl, by decide +kernel, rfl, by decide +kernel, by decide +kernel⟩
def spVal (k : Nat) : Sp := fun vs H Q _ => ∃ (f : Fm) (r : Nat) (v : V), vs = [v, .int (r : Int)] ∧ Tp H v (dF f) ∧ f.ok 8 ∧ f.dep < k ∧ Q (.bl (f.so r)) H
theorem ok_value_so (T : Top K mg) : ∀ k : Nat, Ok P w K mg base (k + 2) "value_so" ["formula", "row"] (spVal k)
  | 0 => (Ok.never (T.at_ (st := s_value_so) 12) (fun _ _ _ _ _ _ us hl => match us, hl with | [_, _], _ => rfl) (fun vs H Q E h => by
      obtain ⟨f, r, v, _, _, _, h, _⟩ := h
      exact absurd h (Nat.not_lt_zero _))).mono (Nat.zero_le _)
  | k + 1 => by
    have G_value_so := ok_value_so T k
    have G_is_so := ok_is_so (P := P) (w := w) (base := base) T
    refine mk (T.at_ (st := s_value_so) 12) sc_value_so (fun _ _ _ _ _ _ us hl => match us, hl with | [_, _], _ => rfl) (fun vs H Q E h => ?_) fun cdv A outer s H vs Q E hr h => ?_
    · obtain ⟨f, r, v, rfl, _⟩ := h
      rfl
    obtain ⟨f, r, v, rfl, hv, ok, hk, q⟩ := h
    refine ⟨_, pss_cons (ps_if (pt_cmpR op_eq (pIx K (pv 0) pe_int) pe_str (nomark _)) (pss_one (ps_ret (pe_or (pc G_value_so hr (pa_cons (pIx K (pv 0) pe_int) (pa_cons (pv 1) pa_nil))) (pe_one (pc G_value_so hr (pa_cons (pIx K (pv 0) pe_int) (pa_cons (pv 1) pa_nil))))))) pss_nil)
    <| pss_cons (ps_if (pt_cmpR op_eq (pIx K (pv 0) pe_int) pe_str (nomark _)) (pss_one (ps_ret (pe_and (pc G_value_so hr (pa_cons (pIx K (pv 0) pe_int) (pa_cons (pv 1) pa_nil))) (pe_one (pc G_value_so hr (pa_cons (pIx K (pv 0) pe_int) (pa_cons (pv 1) pa_nil))))))) pss_nil)
    <| pss_one (ps_ret (pc G_is_so hr (pa_cons (pv 0) (pa_cons (pv 1) pa_nil)))), ?_⟩
    cases f with
    | sg i b =>
      obtain ⟨a, rfl, ha⟩ := hv.sgE
      have hi : i < 8 := ok
      refine ⟨_, rfl, a, _, _, _, rfl, rfl, SqT.of ha, rfl, rfl, _, rfl, iteF ?_⟩
      refine ⟨_, rfl, a, _, _, _, rfl, rfl, SqT.of ha, rfl, rfl, _, rfl, iteF ?_⟩
      exact ⟨_, rfl, _, rfl, i, r, b, .ref a, rfl, hv, by omega, q⟩
    | bin o f g =>
      obtain ⟨a, x, y, rfl, ha, hx, hy⟩ := hv.binE
      have dd : Fm.dep (.bin o f g) = 1 + max f.dep g.dep := rfl
      refine ⟨_, rfl, a, _, _, _, rfl, rfl, SqT.of ha, rfl, rfl, _, rfl, ?_⟩
      rw [wd_or]
      cases o with
      | true =>
        refine iteT ?_
        refine ⟨_, rfl, a, _, _, _, rfl, rfl, SqT.of ha, rfl, _, rfl, f, r, x, rfl, hx, ok.1, by omega, f.so r, rfl, ?_⟩
        have e : (Fm.bin true f g).so r = (f.so r || g.so r) := rfl
        rw [e] at q
        cases hf : f.so r with
        | true =>
          rw [hf] at q
          exact iteT q
        | false =>
          rw [hf] at q
          exact iteF ⟨_, rfl, a, _, _, _, rfl, rfl, SqT.of ha, rfl, _, rfl, g, r, y, rfl, hy, ok.2, by omega, q⟩
      | false =>
        refine iteF ?_
        refine ⟨_, rfl, a, _, _, _, rfl, rfl, SqT.of ha, rfl, rfl, _, rfl, ?_⟩
        rw [wd_and]
        refine iteT ?_
        refine ⟨_, rfl, a, _, _, _, rfl, rfl, SqT.of ha, rfl, _, rfl, f, r, x, rfl, hx, ok.1, by omega, f.so r, rfl, ?_⟩
        have e : (Fm.bin false f g).so r = (f.so r && g.so r) := rfl
        rw [e] at q
        cases hf : f.so r with
        | false =>
          rw [hf] at q
          exact iteF q
        | true =>
          rw [hf] at q
          exact iteT ⟨_, rfl, a, _, _, _, rfl, rfl, SqT.of ha, rfl, _, rfl, g, r, y, rfl, hy, ok.2, by omega, q⟩

abbrev n_depth_so : List Str := ["formula"]
theorem sc_depth_so : FnScope n_depth_so ["formula"] (defScope s_depth_so) := ⟨rfl, rfl, rfl, by decide +kernel, rfl, by decide +kernel, by decide +kernel⟩
def spDep (k : Nat) : Sp := fun vs H Q _ => ∃ (f : Fm) (v : V), vs = [v] ∧ Tp H v (dF f) ∧ f.dep < k ∧ Q (.int (f.dep : Int)) H
theorem ok_depth_so (T : Top K mg) : ∀ k : Nat, Ok P w K mg base k "depth_so" ["formula"] (spDep k)
  | 0 => Ok.never (T.at_ (st := s_depth_so) 13) (fun _ _ _ _ _ _ us hl => match us, hl with | [_], _ => rfl) (fun vs H Q E h => by
      obtain ⟨f, v, _, _, h, _⟩ := h
      exact absurd h (Nat.not_lt_zero _))
  | k + 1 => by
    have G_depth_so := ok_depth_so T k
    refine mk (T.at_ (st := s_depth_so) 13) sc_depth_so (fun _ _ _ _ _ _ us hl => match us, hl with | [_], _ => rfl) (fun vs H Q E h => ?_) fun cdv A outer s H vs Q E hr h => ?_
    · obtain ⟨f, v, rfl, _⟩ := h
      rfl
    obtain ⟨f, v, rfl, hv, hk, q⟩ := h
    refine ⟨_, pss_one (ps_ret (pe_ifExp (pt_cmpR op_eq (pLen K T.len (pv 0)) pe_int (nomark _)) (pe_op op_add pe_int (pMax T.max (pc G_depth_so hr (pa_cons (pIx K (pv 0) pe_int) pa_nil)) (pc G_depth_so hr (pa_cons (pIx K (pv 0) pe_int) pa_nil)))) pe_int)), ?_⟩
    cases f with
    | sg i b =>
      obtain ⟨a, rfl, ha⟩ := hv.sgE
      exact ⟨_, rfl, a, _, rfl, .inr (SqT.of ha), rfl, _, rfl, iteF q⟩
    | bin o f g =>
      obtain ⟨a, x, y, rfl, ha, hx, hy⟩ := hv.binE
      have dd : Fm.dep (.bin o f g) = 1 + max f.dep g.dep := rfl
      refine ⟨_, rfl, a, _, rfl, .inr (SqT.of ha), rfl, _, rfl, iteT ?_⟩
      refine ⟨_, rfl, a, _, _, _, rfl, rfl, SqT.of ha, rfl, f, x, rfl, hx, by omega, ?_⟩
      refine ⟨_, rfl, a, _, _, _, rfl, rfl, SqT.of ha, rfl, g, y, rfl, hy, by omega, _, _, rfl, _, _, rfl, rfl, ?_⟩
      have e : (1 : Int) + (if (g.dep : Int) > (f.dep : Int) then (g.dep : Int) else (f.dep : Int)) = ((Fm.dep (.bin o f g) : Nat) : Int) := by
        rw [dd]
        by_cases z : (g.dep : Int) > (f.dep : Int)
        · rw [if_pos z]; omega
        · rw [if_neg z]; omega
      rw [← e] at q
      exact q

abbrev n_leaves_so : List Str := ["formula"]
theorem sc_leaves_so : FnScope n_leaves_so ["formula"] (defScope s_leaves_so) := ⟨rfl, rfl, rfl, by decide +kernel, rfl, by decide +kernel, by decide +kernel⟩
def spLvs (k : Nat) : Sp := fun vs H Q _ => ∃ (f : Fm) (v : V), vs = [v] ∧ Tp H v (dF f) ∧ f.dep < k ∧ Q (.int (f.lvs : Int)) H
theorem ok_leaves_so (T : Top K mg) : ∀ k : Nat, Ok P w K mg base k "leaves_so" ["formula"] (spLvs k)
  | 0 => Ok.never (T.at_ (st := s_leaves_so) 14) (fun _ _ _ _ _ _ us hl => match us, hl with | [_], _ => rfl) (fun vs H Q E h => by
      obtain ⟨f, v, _, _, h, _⟩ := h
      exact absurd h (Nat.not_lt_zero _))
  | k + 1 => by
    have G_leaves_so := ok_leaves_so T k
    refine mk (T.at_ (st := s_leaves_so) 14) sc_leaves_so (fun _ _ _ _ _ _ us hl => match us, hl with | [_], _ => rfl) (fun vs H Q E h => ?_) fun cdv A outer s H vs Q E hr h => ?_
    · obtain ⟨f, v, rfl, _⟩ := h
      rfl
    obtain ⟨f, v, rfl, hv, hk, q⟩ := h
    refine ⟨_, pss_one (ps_ret (pe_ifExp (pt_cmpR op_eq (pLen K T.len (pv 0)) pe_int (nomark _)) (pe_op op_add (pc G_leaves_so hr (pa_cons (pIx K (pv 0) pe_int) pa_nil)) (pc G_leaves_so hr (pa_cons (pIx K (pv 0) pe_int) pa_nil))) pe_int)), ?_⟩
    cases f with
    | sg i b =>
      obtain ⟨a, rfl, ha⟩ := hv.sgE
      exact ⟨_, rfl, a, _, rfl, .inr (SqT.of ha), rfl, _, rfl, iteF q⟩
    | bin o f g =>
      obtain ⟨a, x, y, rfl, ha, hx, hy⟩ := hv.binE
      have dd : Fm.dep (.bin o f g) = 1 + max f.dep g.dep := rfl
      refine ⟨_, rfl, a, _, rfl, .inr (SqT.of ha), rfl, _, rfl, iteT ?_⟩
      refine ⟨_, rfl, a, _, _, _, rfl, rfl, SqT.of ha, rfl, f, x, rfl, hx, by omega, ?_⟩
      refine ⟨_, rfl, a, _, _, _, rfl, rfl, SqT.of ha, rfl, g, y, rfl, hy, by omega, _, _, rfl, rfl, ?_⟩
      have e : ((f.lvs : Nat) : Int) + ((g.lvs : Nat) : Int) = ((Fm.lvs (.bin o f g) : Nat) : Int) := (Int.natCast_add _ _).symm
      rw [← e] at q
      exact q

abbrev n_negated_so : List Str := ["formula"]
theorem sc_negated_so : FnScope n_negated_so ["formula"] (defScope s_negated_so) := ⟨rfl, rfl, rfl, by decide +kernel, rfl, by decide +kernel, by decide +kernel⟩
def spNeg (k : Nat) : Sp := fun vs H Q _ => ∃ (f : Fm) (v : V), vs = [v] ∧ Tp H v (dF f) ∧ f.dep < k ∧ ∀ r H', Same H H' → Tp H' r (dF f.ng) → Q r H'
theorem ok_negated_so (T : Top K mg) : ∀ k : Nat, Ok P w K mg base (k + 1) "negated_so" ["formula"] (spNeg k)
  | 0 => (Ok.never (T.at_ (st := s_negated_so) 15) (fun _ _ _ _ _ _ us hl => match us, hl with | [_], _ => rfl) (fun vs H Q E h => by
      obtain ⟨f, v, _, _, h, _⟩ := h
      exact absurd h (Nat.not_lt_zero _))).mono (Nat.zero_le _)
  | k + 1 => by
    have G_negated_so := ok_negated_so T k
    have G_turned_sign := ok_turned_sign (P := P) (w := w) (base := base) T
    refine mk (T.at_ (st := s_negated_so) 15) sc_negated_so (fun _ _ _ _ _ _ us hl => match us, hl with | [_], _ => rfl) (fun vs H Q E h => ?_) fun cdv A outer s H vs Q E hr h => ?_
    · obtain ⟨f, v, rfl, _⟩ := h
      rfl
    obtain ⟨f, v, rfl, hv, hk, q⟩ := h
    refine ⟨_, pss_cons (ps_if (pt_cmpR op_ne (pLen K T.len (pv 0)) pe_int (nomark _)) (pss_one (ps_ret (pc G_turned_sign hr (pa_cons (pv 0) pa_nil)))) pss_nil)
    <| pss_one (ps_ret (pe_tup (pa_cons (pe_ifExp (pt_cmpR op_eq (pIx K (pv 0) pe_int) pe_str (nomark _)) pe_str pe_str) (pa_cons (pc G_negated_so hr (pa_cons (pIx K (pv 0) pe_int) pa_nil)) (pa_cons (pc G_negated_so hr (pa_cons (pIx K (pv 0) pe_int) pa_nil)) pa_nil))))), ?_⟩
    cases f with
    | sg i b =>
      obtain ⟨a, rfl, ha⟩ := hv.sgE
      refine ⟨_, rfl, a, _, rfl, .inr (SqT.of ha), rfl, _, rfl, iteT ?_⟩
      exact ⟨_, rfl, i, b, .ref a, rfl, hv, fun r H' g d => q r H' g d⟩
    | bin o f g =>
      obtain ⟨a, x, y, rfl, ha, hx, hy⟩ := hv.binE
      have dd : Fm.dep (.bin o f g) = 1 + max f.dep g.dep := rfl
      refine ⟨_, rfl, a, _, rfl, .inr (SqT.of ha), rfl, _, rfl, iteF ?_⟩
      refine ⟨_, rfl, a, _, _, _, rfl, rfl, SqT.of ha, rfl, rfl, _, rfl, ?_⟩
      rw [wd_or]
      have go : ∀ (H0 : Hp), H0 = H → (tCons (tCall (spNeg k) [] E0 (tCons (tOp (rIxT K) (tVar 0) (tC (.int 1))) tNil)) (tCons (tCall (spNeg k) [] E0 (tCons (tOp (rIxT K) (tVar 0) (tC (.int 2))) tNil)) tNil)) [some (.ref a)] H0
          (fun xs H1 => (V.str (wd !o) :: xs).length ≤ sizeLine ∧ ∀ p, H1 p = none → Q (.ref p) (upd H1 p (.tup (V.str (wd !o) :: xs)))) := fun H0 e0 => by
        subst e0
        refine ⟨_, rfl, a, _, _, _, rfl, rfl, SqT.of ha, rfl, f, x, rfl, hx, by omega, fun r1 H1 g1 d1 => ?_⟩
        refine ⟨_, rfl, a, _, _, _, rfl, rfl, SqT.of (g1 _ _ ha), rfl, g, y, rfl, tpS g1 hy, by omega, fun r2 H2 g2 d2 => ?_⟩
        refine ⟨sz (by show 3 ≤ 100000; decide), fun p hp => ?_⟩
        exact q _ _ (g1.trans (g2.trans (sNew hp))) (Tp.bin (o := !o) (f := f.ng) (g := g.ng) upd_same (tpS (g2.trans (sNew hp)) d1) (tpS (sNew hp) d2))
      cases o with
      | true => exact iteT (go H rfl)
      | false => exact iteF (go H rfl)

abbrev n_need_formula : List Str := ["question", "formula"]
theorem sc_need_formula : FnScope n_need_formula ["question", "formula"] (defScope s_need_formula) := ⟨rfl, rfl, rfl, by decide +kernel, rfl, by decide +kernel, by decide +kernel⟩
theorem ok_need_formula (T : Top K mg) : Ok P w K mg base 5 "need_formula" ["question", "formula"] (fun vs H Q _ => ∃ (n : Nat) (f : Fm) (q v : V), vs = [q, v] ∧ Tp H q (dQ n [0] [1]) ∧ 1 ≤ n ∧ n ≤ 8 ∧ Tp H v (dF f) ∧ f.ok n ∧ f.lvs ≤ 200 ∧ f.dep ≤ 60 ∧ ∀ H', Same H H' → Q v H') := by
  have G_check_question := ok_check_question (P := P) (w := w) (base := base) T
  have G_check_formula := ok_check_formula (P := P) (w := w) (base := base) T
  refine mk (T.at_ (st := s_need_formula) 16) sc_need_formula (fun _ _ _ _ _ _ us hl => match us, hl with | [_, _], _ => rfl) (fun vs H Q E h => ?_) fun cdv A outer s H vs Q E hr h => ?_
  · obtain ⟨n, f, q, v, rfl, _⟩ := h
    rfl
  obtain ⟨n, f, qv, v, rfl, hq, h1, h8, hv, ok, h200, h60, q⟩ := h
  refine ⟨_, pss_one (ps_ret (pc G_check_formula hr (pa_cons (pc G_check_question hr (pa_cons (pv 0) pa_nil)) (pa_cons (pv 1) pa_nil)))), ?_⟩
  exact ⟨_, rfl, n, qv, rfl, hq, h1, h8, fun H1 g1 => ⟨_, rfl, n, f, qv, v, rfl, tpS g1 hq, tpS g1 hv, ok, h200, h60, fun H2 g2 => q H2 (g1.trans g2)⟩⟩

/-- what a formula of a question is asked with -/
def Asks (H : Hp) (q v : V) (n : Nat) (f : Fm) : Prop := Tp H q (dQ n [0] [1]) ∧ 1 ≤ n ∧ n ≤ 8 ∧ Tp H v (dF f) ∧ f.ok n ∧ f.lvs ≤ 200 ∧ f.dep ≤ 60
abbrev n_value_of : List Str := ["question", "formula", "row"]
theorem sc_value_of : FnScope n_value_of ["question", "formula", "row"] (defScope s_value_of) := ⟨rfl, rfl, rfl, by decide +kernel, rfl, by decide +kernel, by decide +kernel⟩
def spValOf : Sp := fun vs H Q _ => ∃ (n r : Nat) (f : Fm) (q v : V), vs = [q, v, .int (r : Int)] ∧ Asks H q v n f ∧ r < 2 ^ n ∧ ∀ H', Same H H' → Q (.bl (f.so r)) H'
theorem ok_value_of (T : Top K mg) : Ok P w K mg base 64 "value_of" ["question", "formula", "row"] spValOf := by
  have G_need_formula := ok_need_formula (P := P) (w := w) (base := base) T
  have G_check_row := ok_check_row (P := P) (w := w) (base := base) T
  have G_value_so := ok_value_so (P := P) (w := w) (base := base) T 61
  refine mk (T.at_ (st := s_value_of) 17) sc_value_of (fun _ _ _ _ _ _ us hl => match us, hl with | [_, _, _], _ => rfl) (fun vs H Q E h => ?_) fun cdv A outer s H vs Q E hr h => ?_
  · obtain ⟨n, r, f, q, v, rfl, _⟩ := h
    rfl
  obtain ⟨n, r, f, qv, v, rfl, ⟨hq, h1, h8, hv, ok, h200, h60⟩, hrow, q⟩ := h
  obtain ⟨qa, q1, q2, q3, q4, rfl, hqa, t1, t2, t3, t4⟩ := hq.four
  have eq1 := t1.intE
  subst eq1
  refine ⟨_, pss_cons (ps_expr (pc G_need_formula hr (pa_cons (pv 0) (pa_cons (pv 1) pa_nil))))
    <| pss_one (ps_ret (pc G_value_so hr (pa_cons (pv 1) (pa_cons (pc G_check_row hr (pa_cons (pIx K (pv 0) pe_int) (pa_cons (pv 2) pa_nil))) pa_nil)))), ?_⟩
  refine ⟨_, rfl, _, rfl, n, f, .ref qa, v, rfl, hq, h1, h8, hv, ok, h200, h60, fun H1 g1 => ?_⟩
  refine ⟨_, rfl, _, rfl, qa, _, _, _, rfl, rfl, SqT.of (g1 _ _ hqa), rfl, _, rfl, n, r, rfl, h8, hrow, ?_⟩
  exact ⟨f, r, v, rfl, tpS g1 hv, Fm.ok_mono h8 f ok, by omega, q H1 g1⟩
abbrev n_depth_of : List Str := ["question", "formula"]
theorem sc_depth_of : FnScope n_depth_of ["question", "formula"] (defScope s_depth_of) := ⟨rfl, rfl, rfl, by decide +kernel, rfl, by decide +kernel, by decide +kernel⟩
def spDepOf : Sp := fun vs H Q _ => ∃ (n : Nat) (f : Fm) (q v : V), vs = [q, v] ∧ Asks H q v n f ∧ ∀ H', Same H H' → Q (.int (f.dep : Int)) H'
theorem ok_depth_of (T : Top K mg) : Ok P w K mg base 62 "depth_of" ["question", "formula"] spDepOf := by
  have G_need_formula := ok_need_formula (P := P) (w := w) (base := base) T
  have G_depth_so := ok_depth_so (P := P) (w := w) (base := base) T 61
  refine mk (T.at_ (st := s_depth_of) 18) sc_depth_of (fun _ _ _ _ _ _ us hl => match us, hl with | [_, _], _ => rfl) (fun vs H Q E h => ?_) fun cdv A outer s H vs Q E hr h => ?_
  · obtain ⟨n, f, q, v, rfl, _⟩ := h
    rfl
  obtain ⟨n, f, qv, v, rfl, ⟨hq, h1, h8, hv, ok, h200, h60⟩, q⟩ := h
  refine ⟨_, pss_one (ps_ret (pc G_depth_so hr (pa_cons (pc G_need_formula hr (pa_cons (pv 0) (pa_cons (pv 1) pa_nil))) pa_nil))), ?_⟩
  exact ⟨_, rfl, _, rfl, n, f, qv, v, rfl, hq, h1, h8, hv, ok, h200, h60, fun H1 g1 => ⟨f, v, rfl, tpS g1 hv, by omega, q H1 g1⟩⟩
abbrev n_leaves_of : List Str := ["question", "formula"]
theorem sc_leaves_of : FnScope n_leaves_of ["question", "formula"] (defScope s_leaves_of) := ⟨rfl, rfl, rfl, by decide +kernel, rfl, by decide +kernel, by decide +kernel⟩
def spLvsOf : Sp := fun vs H Q _ => ∃ (n : Nat) (f : Fm) (q v : V), vs = [q, v] ∧ Asks H q v n f ∧ ∀ H', Same H H' → Q (.int (f.lvs : Int)) H'
theorem ok_leaves_of (T : Top K mg) : Ok P w K mg base 62 "leaves_of" ["question", "formula"] spLvsOf := by
  have G_need_formula := ok_need_formula (P := P) (w := w) (base := base) T
  have G_leaves_so := ok_leaves_so (P := P) (w := w) (base := base) T 61
  refine mk (T.at_ (st := s_leaves_of) 19) sc_leaves_of (fun _ _ _ _ _ _ us hl => match us, hl with | [_, _], _ => rfl) (fun vs H Q E h => ?_) fun cdv A outer s H vs Q E hr h => ?_
  · obtain ⟨n, f, q, v, rfl, _⟩ := h
    rfl
  obtain ⟨n, f, qv, v, rfl, ⟨hq, h1, h8, hv, ok, h200, h60⟩, q⟩ := h
  refine ⟨_, pss_one (ps_ret (pc G_leaves_so hr (pa_cons (pc G_need_formula hr (pa_cons (pv 0) (pa_cons (pv 1) pa_nil))) pa_nil))), ?_⟩
  exact ⟨_, rfl, _, rfl, n, f, qv, v, rfl, hq, h1, h8, hv, ok, h200, h60, fun H1 g1 => ⟨f, v, rfl, tpS g1 hv, by omega, q H1 g1⟩⟩
end
end Sb


namespace Sb
open PySem PySem.Spec
open PyProof.Rows L2
section
variable {P : Program} {w : World} {K : PySem.W.Frag} {mg : Str → Option Value} {base : Heap}

/-! ### tables as data, lists by ranges -/
theorem Tp.intsE {H : Hp} {v : V} {ns : List Int} (h : Tp H v (dI ns)) : ∃ a, v = .ref a ∧ H a = some (.tup (ns.map V.int)) := by
  obtain ⟨a, xs, rfl, ha, hx⟩ := h.tupE
  rw [ofInts hx] at ha
  exact ⟨a, rfl, ha⟩
theorem Tp.ints {H : Hp} {a : Addr} {ns : List Int} (h : H a = some (.tup (ns.map V.int))) : Tp H (.ref a) (dI ns) := .tup h (tpInts ns)
theorem Tp.tabE {H : Hp} {v : V} {n : Nat} {A : List Bool} (h : Tp H v (dT n A)) : ∃ a b, v = .ref a ∧ H a = some (.tup [.int (n : Int), .ref b]) ∧ H b = some (.tup ((zo A).map V.int)) := by
  obtain ⟨a, x, y, rfl, ha, hx, hy⟩ := h.two
  obtain ⟨b, rfl, hb⟩ := hy.intsE
  rw [hx.intE] at ha
  exact ⟨a, b, rfl, ha, hb⟩
theorem Tp.tab {H : Hp} {a b : Addr} {n : Nat} {A : List Bool} (ha : H a = some (.tup [.int (n : Int), .ref b])) (hb : H b = some (.tup ((zo A).map V.int))) : Tp H (.ref a) (dT n A) :=
  .tup ha (.cons (.int _) (.cons (.ints hb) .nil))
theorem zo_len (A : List Bool) : ((zo A).map V.int).length = A.length := by unfold zo; rw [List.length_map, List.length_map]
theorem zo_at {A : List Bool} {k : Nat} (h : k < A.length) : ((zo A).map V.int)[k]? = some (.int (b2n (Sb.at_ A k) : Int)) := by
  unfold zo Sb.at_
  rw [List.getElem?_map, List.getElem?_map, List.getD_eq_getElem?_getD, List.getElem?_eq_getElem h]
  rfl
theorem rg_succ {α : Type} (f : Nat → α) (n : Nat) : (List.range (n + 1)).map f = (List.range n).map f ++ [f n] := by
  rw [List.range_succ, List.map_append]
  rfl
theorem rg_sum (g : Nat → Nat) : ∀ n, ((List.range n).map fun j => ((g j : Nat) : Int)).sum = ((sumTo g n : Nat) : Int)
  | 0 => rfl
  | n + 1 => by
    rw [rg_succ, List.sum_append, rg_sum g n]
    show ((sumTo g n : Nat) : Int) + (((g n : Nat) : Int) + 0) = ((sumTo g n + g n : Nat) : Int)
    omega
theorem shl_nat (b k : Nat) : (b : Int) * 2 ^ (k : Int).toNat = ((b * 2 ^ k : Nat) : Int) := by
  rw [Int.toNat_natCast]
  simp

/-- a comprehension without a test -/
theorem yes {A B : Hp → Prop} {σ : L2.St} {H : Hp} (h : A H) : tYes σ H fun b H3 => if b = true then A H3 else B H3 := h

abbrev n_check_one : List Str := ["value", "row", "thing"]
theorem sc_check_one : FnScope n_check_one ["value"] (defScope s_check_one) := ⟨rfl, rfl, rfl, by decide +kernel, rfl, by decide +kernel, by decide +kernel⟩
def spOne : Sp := fun vs H Q _ => ∃ (n : Nat) (A : List Bool) (v : V), vs = [v] ∧ Tp H v (dT n A) ∧ 1 ≤ n ∧ n ≤ 8 ∧ A.length = 2 ^ n ∧ ∀ H', Same H H' → Q v H'
theorem ok_check_one (T : Top K mg) : Ok P w K mg base 2 "check_one" ["value"] spOne := by
  have G_is_from := ok_is_from (P := P) (w := w) (base := base) T
  obtain ⟨tw, mt, ht⟩ := T.twos
  refine mk (T.at_ (st := s_check_one) 20) sc_check_one (fun _ _ _ _ _ _ us hl => match us, hl with | [_], _ => rfl) (fun vs H Q E h => ?_) fun cdv A outer s H vs Q E hr h => ?_
  · obtain ⟨n, A, v, rfl, _⟩ := h
    rfl
  obtain ⟨n, A', v, rfl, hv, h1, h8, hA, q⟩ := h
  obtain ⟨a, b, rfl, ha, hb⟩ := hv.tabE
  refine ⟨_, pss_cons (ps_if (PW.pt (pw_or (pt_not (pt_val (pIsi K T.isinstance (pv 0) T.tuple PyProof.Rows.boot_tuple))) (pw_or1 (pt_cmpR op_ne (pLen K T.len (pv 0)) pe_int (nomark _))))) (pss_one ps_never) pss_nil)
    <| pss_cons (ps_if (pt_not (pt_val (pc G_is_from hr (pa_cons (pIx K (pv 0) pe_int) (pa_cons pe_int (pa_cons (pgi T.mi) pa_nil)))))) (pss_one ps_never) pss_nil)
    <| pss_cons (ps_if (PW.pt (pw_or (pt_not (pt_val (pIsi K T.isinstance (pIx K (pv 0) pe_int) T.tuple PyProof.Rows.boot_tuple))) (pw_or1 (pt_cmpR op_ne (pLen K T.len (pIx K (pv 0) pe_int)) (pIx K (pTwos mt) (pIx K (pv 0) pe_int)) (nomark _))))) (pss_one ps_never) pss_nil)
    <| pss_cons (ps_for PassesOwn.never rfl (pi_enT T.enumerate (pa_cons (pIx K (pv 0) pe_int) pa_nil)) (pg_tup rfl (pgs_cons (pg_name (i := 1) sc_check_one.nd rfl (Or.inl rfl)) (pgs_cons (pg_name (i := 2) sc_check_one.nd rfl (Or.inl rfl)) pgs_nil))) (pss_one (ps_if (pt_not (pt_val (pc G_is_from hr (pa_cons (pv 2) (pa_cons pe_int (pa_cons pe_int pa_nil)))))) (pss_one ps_never) pss_nil)))
    <| pss_one (ps_ret (pv 0)), ?_⟩
  refine ⟨_, rfl, _, _, _, _, _, rfl, .ty _, .base (.tup ha), kit_ty kitTup, true, rfl, iteF ?_⟩
  refine ⟨_, rfl, a, _, rfl, .inr (SqT.of ha), rfl, _, rfl, iteF ?_⟩
  refine ⟨_, rfl, a, _, _, _, rfl, rfl, SqT.of ha, rfl, (n : Int), 1, 8, rfl, _, rfl, ?_⟩
  have c1 : decide ((1 : Int) ≤ (n : Int) ∧ (n : Int) ≤ 8) = true := decide_eq_true (by omega)
  show if (!decide ((1 : Int) ≤ (n : Int) ∧ (n : Int) ≤ 8)) = true then _ else _
  rw [c1]
  refine iteF ?_
  refine ⟨_, rfl, a, _, _, _, rfl, rfl, SqT.of ha, rfl, _, _, _, _, _, rfl, .ty _, .base (.tup hb), kit_ty kitTup, true, rfl, iteF ?_⟩
  refine ⟨_, rfl, a, _, _, _, rfl, rfl, SqT.of ha, rfl, b, _, rfl, .inr (SqT.of hb), _, rfl, a, _, _, _, rfl, rfl, SqT.of ha, rfl, tw, _, _, _, rfl, rfl, ht H, atI_nat (twos_at h8), rfl, _, rfl, ?_⟩
  have ln := zo_len A'
  refine iteNS (by rw [ln, hA]) ?_
  refine ⟨_, rfl, a, _, _, _, rfl, rfl, SqT.of ha, rfl, b, _, rfl, SqT.of hb, for_it walk_enT (fun i σ H' => Same H H' ∧ ∃ x y, σ = [some (.ref a), x, y]) ⟨Same.refl H, _, _, rfl⟩ (fun i σ H' _ h => SqT.of (h.1 _ _ hb)) (fun i x σ H1 H2 hi h y => ?_) fun σ H' h => ?_⟩
  · obtain ⟨g1, x0, y0, rfl⟩ := h
    obtain ⟨t, x1, y1, rfl, ht1, rfl, e1, e2⟩ := y
    cases e1
    have hi2 : i < A'.length := by rw [← ln]; exact hi
    have e3 : y1 = .int (b2n (Sb.at_ A' i) : Int) := by
      have e4 : ((zo A').map V.int)[i]? = some y1 := e2
      rw [zo_at hi2] at e4
      exact (Option.some.inj e4).symm
    subst e3
    have b01 := b2n_01 (Sb.at_ A' i)
    refine ⟨t, _, rfl, SqT.of upd_same, rfl, _, _, rfl, _, _, rfl, rfl, ?_⟩
    refine ⟨_, rfl, _, 0, 1, rfl, _, rfl, ?_⟩
    have c2 : decide ((0 : Int) ≤ (b2n (Sb.at_ A' i) : Int) ∧ (b2n (Sb.at_ A' i) : Int) ≤ 1) = true := decide_eq_true b01
    show if (!decide ((0 : Int) ≤ (b2n (Sb.at_ A' i) : Int) ∧ (b2n (Sb.at_ A' i) : Int) ≤ 1)) = true then _ else _
    rw [c2]
    exact iteF ⟨g1.trans (sNew ht1), _, _, rfl⟩
  · obtain ⟨g1, x0, y0, rfl⟩ := h
    exact ⟨_, rfl, q _ g1⟩

abbrev n_check_together : List Str := ["many", "other"]
theorem sc_check_together : FnScope n_check_together ["many", "other"] (defScope s_check_together) := ⟨rfl, rfl, rfl, by decide +kernel, rfl, by decide +kernel, by decide +kernel⟩
def spTog : Sp := fun vs H Q _ => ∃ n m : Nat, vs = [.int (n : Int), .int (m : Int)] ∧ n ≤ 8 ∧ n * m ≤ 8 ∧ Q .non H
theorem ok_check_together (T : Top K mg) : Ok P w K mg base 1 "check_together" ["many", "other"] spTog := by
  refine mk (T.at_ (st := s_check_together) 21) sc_check_together (fun _ _ _ _ _ _ us hl => match us, hl with | [_, _], _ => rfl) (fun vs H Q E h => ?_) fun cdv A outer s H vs Q E hr h => ?_
  · obtain ⟨n, m, rfl, _⟩ := h
    rfl
  obtain ⟨n, m, rfl, h1, h2, q⟩ := h
  refine ⟨_, pss_one (ps_if (pt_cmpR op_gt (pe_op op_mul (pv 0) (pv 1)) (pgi T.mi) (nomark _)) (pss_one ps_never) pss_nil), ?_⟩
  refine ⟨_, rfl, _, rfl, _, _, rfl, rfl, .inl ⟨by omega, by omega⟩, _, _, rfl, rfl, _, rfl, ?_⟩
  have c : decide ((8 : Int) < (n : Int) * (m : Int)) = false := decide_eq_false (by
    have z : ((n * m : Nat) : Int) = (n : Int) * (m : Int) := Int.natCast_mul n m
    omega)
  show if decide ((8 : Int) < (n : Int) * (m : Int)) = true then _ else _
  rw [c]
  exact iteF q

/-- two tables that are put together -/
def Two (H : Hp) (u v : V) (n : Nat) (A : List Bool) (m : Nat) (B : List Bool) : Prop := Tp H u (dT n A) ∧ Tp H v (dT m B) ∧ 1 ≤ n ∧ 1 ≤ m ∧ n * m ≤ 8 ∧ A.length = 2 ^ n ∧ B.length = 2 ^ m
theorem Two.le {H : Hp} {u v : V} {n m : Nat} {A B : List Bool} (h : Two H u v n A m B) : n ≤ 8 ∧ m ≤ 8 := by
  obtain ⟨_, _, h1, h2, h3, _⟩ := h
  have a := Nat.mul_le_mul_left n h2
  have b := Nat.mul_le_mul_right m h1
  omega
theorem Two.mono {H H' : Hp} {u v : V} {n m : Nat} {A B : List Bool} (g : Same H H') (h : Two H u v n A m B) : Two H' u v n A m B := ⟨tpS g h.1, tpS g h.2.1, h.2.2⟩
abbrev n_check_both : List Str := ["outer", "inner"]
theorem sc_check_both : FnScope n_check_both ["outer", "inner"] (defScope s_check_both) := ⟨rfl, rfl, rfl, by decide +kernel, rfl, by decide +kernel, by decide +kernel⟩
def spBothC : Sp := fun vs H Q _ => ∃ (n m : Nat) (A B : List Bool) (u v : V), vs = [u, v] ∧ Two H u v n A m B ∧ ∀ H', Same H H' → Q .non H'
theorem ok_check_both (T : Top K mg) : Ok P w K mg base 3 "check_both" ["outer", "inner"] spBothC := by
  have G_check_one := ok_check_one (P := P) (w := w) (base := base) T
  have G_check_together := ok_check_together (P := P) (w := w) (base := base) T
  refine mk (T.at_ (st := s_check_both) 22) sc_check_both (fun _ _ _ _ _ _ us hl => match us, hl with | [_, _], _ => rfl) (fun vs H Q E h => ?_) fun cdv A outer s H vs Q E hr h => ?_
  · obtain ⟨n, m, A, B, u, v, rfl, _⟩ := h
    rfl
  obtain ⟨n, m, A', B', u, v, rfl, tt, q⟩ := h
  obtain ⟨l1, l2⟩ := tt.le
  obtain ⟨hu, hv, h1, h2, h3, hA, hB⟩ := id tt
  refine ⟨_, pss_cons (ps_expr (pc G_check_one hr (pa_cons (pv 0) pa_nil)))
    <| pss_cons (ps_expr (pc G_check_one hr (pa_cons (pv 1) pa_nil)))
    <| pss_one (ps_expr (pc G_check_together hr (pa_cons (pIx K (pv 0) pe_int) (pa_cons (pIx K (pv 1) pe_int) pa_nil)))), ?_⟩
  refine ⟨_, rfl, n, A', u, rfl, hu, h1, l1, hA, fun H1 g1 => ?_⟩
  refine ⟨_, rfl, m, B', v, rfl, tpS g1 hv, h2, l2, hB, fun H2 g2 => ?_⟩
  obtain ⟨a, b, rfl, ha, hb⟩ := (tpS (g1.trans g2) hu).tabE
  obtain ⟨c, d, rfl, hc, hd⟩ := (tpS (g1.trans g2) hv).tabE
  refine ⟨_, rfl, a, _, _, _, rfl, rfl, SqT.of ha, rfl, _, rfl, c, _, _, _, rfl, rfl, SqT.of hc, rfl, n, m, rfl, l1, h3, ?_⟩
  exact q _ (g1.trans g2)

abbrev n_block_so : List Str := ["row", "place", "many"]
theorem sc_block_so : FnScope n_block_so ["row", "place", "many"] (defScope s_block_so) := ⟨rfl, rfl, rfl, by decide +kernel, rfl, by decide +kernel, by decide +kernel⟩
def spBlk : Sp := fun vs H Q _ => ∃ r j m : Nat, vs = [.int (r : Int), .int (j : Int), .int (m : Int)] ∧ j ≤ 8 ∧ m ≤ 8 ∧ Q (.int (blk m j r : Int)) H
theorem ok_block_so (T : Top K mg) : Ok P w K mg base 1 "block_so" ["row", "place", "many"] spBlk := by
  refine mk (T.at_ (st := s_block_so) 23) sc_block_so (fun _ _ _ _ _ _ us hl => match us, hl with | [_, _, _], _ => rfl) (fun vs H Q E h => ?_) fun cdv A outer s H vs Q E hr h => ?_
  · obtain ⟨r, j, m, rfl, _⟩ := h
    rfl
  obtain ⟨r, j, m, rfl, h1, h2, q⟩ := h
  refine ⟨_, pss_one (ps_ret (pe_op op_and (pe_op op_shr (pv 0) (pe_op op_mul (pv 1) (pv 2))) (pe_op op_sub (pe_op op_shl pe_int (pv 2)) pe_int))), ?_⟩
  have ejm : (j : Int) * (m : Int) = ((j * m : Nat) : Int) := (Int.natCast_mul j m).symm
  refine ⟨_, rfl, _, rfl, _, rfl, _, _, rfl, rfl, .inl ⟨by omega, by omega⟩, _, _, rfl, rfl, (by show (0 : Int) ≤ (j : Int) * (m : Int); omega), ?_⟩
  refine ⟨_, rfl, _, _, rfl, rfl, ⟨by omega, by omega, by decide⟩, _, _, rfl, rfl, _, _, rfl, rfl, ?_⟩
  have e : Builtin.bitAnd ((r : Int) / 2 ^ ((j : Int) * (m : Int)).toNat) (1 * 2 ^ (m : Int).toNat - 1) = ((blk m j r : Nat) : Int) := by
    rw [ejm, Int.toNat_natCast, Int.toNat_natCast, Int.one_mul]
    have z : (r : Int) / 2 ^ (j * m) = ((r / 2 ^ (j * m) : Nat) : Int) := by simp
    rw [z, Bits.bitAnd_mask m (Int.natCast_nonneg _)]
    unfold blk
    simp
  show Q (.int (Builtin.bitAnd ((r : Int) / 2 ^ ((j : Int) * (m : Int)).toNat) (1 * 2 ^ (m : Int).toNat - 1))) H
  rw [e]
  exact q
end
end Sb


namespace Sb
open PySem PySem.Spec
open PyProof.Rows L2
section
variable {P : Program} {w : World} {K : PySem.W.Frag} {mg : Str → Option Value} {base : Heap}

abbrev n_put_in_so : List Str := ["outer", "inner", "many", "size", "found", "row", "bits", "place"]
theorem sc_put_in_so : FnScope n_put_in_so ["outer", "inner"] (defScope s_put_in_so) := ⟨rfl, rfl, rfl, by decide +kernel, rfl, by decide +kernel, by decide +kernel⟩
def spPutIn : Sp := fun vs H Q _ => ∃ (n m : Nat) (A B : List Bool) (u v : V), vs = [u, v] ∧ Two H u v n A m B ∧ ∀ r H', Same H H' → Tp H' r (dT (n * m) (tin n A m B)) → Q r H'
theorem ok_put_in_so (T : Top K mg) : Ok P w K mg base 2 "put_in_so" ["outer", "inner"] spPutIn := by
  have G_block_so := ok_block_so (P := P) (w := w) (base := base) T
  obtain ⟨tw, mt, ht⟩ := T.twos
  refine mk (T.at_ (st := s_put_in_so) 24) sc_put_in_so (fun _ _ _ _ _ _ us hl => match us, hl with | [_, _], _ => rfl) (fun vs H Q E h => ?_) fun cdv A outer s H vs Q E hr h => ?_
  · obtain ⟨n, m, A, B, u, v, rfl, _⟩ := h
    rfl
  obtain ⟨n, m, A', B', u, v, rfl, tt, q⟩ := h
  obtain ⟨l1, l2⟩ := tt.le
  obtain ⟨hu, hv, h1, h2, h3, hA, hB⟩ := id tt
  obtain ⟨a, b, rfl, ha, hb⟩ := hu.tabE
  obtain ⟨c, d, rfl, hc, hd⟩ := hv.tabE
  have enm : (n : Int) * (m : Int) = ((n * m : Nat) : Int) := (Int.natCast_mul n m).symm
  have z0 := Int.natCast_nonneg (2 ^ (n * m))
  have pw8 : 2 ^ (n * m) ≤ 256 := Nat.le_trans (Nat.pow_le_pow_right (by decide) h3) (by decide)
  refine ⟨_, pss_cons (ps_asg (pe_tup (pa_cons (pIx K (pv 0) pe_int) (pa_cons (pIx K (pv 1) pe_int) pa_nil))) (pg_tup rfl (pgs_cons (pg_name (i := 2) sc_put_in_so.nd rfl (Or.inl rfl)) (pgs_cons (pg_name (i := 3) sc_put_in_so.nd rfl (Or.inr rfl)) pgs_nil))))
    <| pss_cons (ps_set (i := 4) sc_put_in_so.nd rfl (Or.inl rfl) (pe_lst pa_nil))
    <| pss_cons (ps_for PassesOwn.never rfl (pi_range1 rfl T.range (pa_cons (pIx K (pTwos mt) (pe_op op_mul (pv 2) (pv 3))) pa_nil)) (pg_name (i := 5) sc_put_in_so.nd rfl (Or.inr rfl)) (pss_cons (ps_setLc (i := 6) (own := [("place", 7)]) (g := gName 7) rfl sc_put_in_so.nd rfl rfl (sw_true rfl rfl rfl (by decide +kernel)) (pi_range1 rfl T.range (pa_cons (pv 2) pa_nil)) (blkOk_by (N := n_put_in_so) (sc := defScope s_put_in_so) (by decide +kernel)) (fun _ _ _ _ _ => (pg_name (i := 7) sc_put_in_so.nd rfl (Or.inl rfl))) (fun _ _ _ _ _ => pts_nil) (fun _ _ _ _ _ => (pe_op op_shl (pIx K (pIx K (pv 1) pe_int) (pc G_block_so hr (pa_cons (pv 5) (pa_cons (pv 7) (pa_cons (pv 3) pa_nil))))) (pv 7)))) (pss_one (ps_expr (pe_bm PySem.F.plainAttrs_list PySem.F.slot_list_append PySem.F.type_list_append mt_append (pv 4) (pa_cons (pIx K (pIx K (pv 0) pe_int) (pSum K T.sum (pv 6))) pa_nil))))))
    <| pss_one (ps_ret (pe_tup (pa_cons (pe_op op_mul (pv 2) (pv 3)) (pa_cons (pTup K T.tuple (pv 4)) pa_nil)))), ?_⟩
  refine ⟨_, rfl, a, _, _, _, rfl, rfl, SqT.of ha, rfl, _, rfl, c, _, _, _, rfl, rfl, SqT.of hc, rfl, sz (by show 2 ≤ 100000; decide), fun p hp => ?_⟩
  refine ⟨p, _, rfl, SqT.of upd_same, rfl, _, _, rfl, _, _, rfl, rfl, ?_⟩
  refine ⟨sz (by show 0 ≤ 100000; decide), fun l hl => ?_⟩
  have g0 : Same H (upd H p (.tup [.int (n : Int), .int (m : Int)])) := sNew hp
  have nl : H l = none := g0.free hl
  have g1 : Same H (upd (upd H p (.tup [.int (n : Int), .int (m : Int)])) l (.lst [])) := g0.trans (sNew hl)
  have k1 : (upd (upd H p (.tup [.int (n : Int), .int (m : Int)])) l (.lst [])) l = some (.lst []) := upd_same
  generalize upd (upd H p (.tup [.int (n : Int), .int (m : Int)])) l (.lst []) = H1 at g1 k1
  clear hl g0 hp p
  refine ⟨_, rfl, _, rfl, _, _, rfl, rfl, .inl ⟨by omega, by omega⟩, tw, _, _, _, rfl, rfl, ht H1, (by rw [enm]; exact atI_nat (twos_at h3)), ((2 ^ (n * m) : Nat) : Int), rfl, by omega, by omega, ?_⟩
  refine for_range (lo := 0) (n := 2 ^ (n * m)) (fun i σ H' => Same H H' ∧ H' l = some (.lst (((List.range i).map fun r => (b2n (Sb.at_ A' (tot n m (Sb.at_ B') r)) : Int)).map V.int)) ∧ ∃ x y, σ = [some (.ref a), some (.ref c), some (.int (n : Int)), some (.int (m : Int)), some (.ref l), x, y, none])
    ⟨g1, k1, _, _, rfl⟩ (fun i σ H' hi h => ?_) fun σ H' h => ?_
  · obtain ⟨g, kl, x, y, rfl⟩ := h
    have e0 : (0 : Int) + (i : Int) = ((i : Nat) : Int) := Int.zero_add _
    rw [e0]
    -- bits = [inner[1][block_so(row, place, size)] << place for place in range(many)]
    refine ⟨_, rfl, (n : Int), rfl, by omega, by omega, fun D hD => ?_⟩
    have nD : H D = none := g.free hD
    have lD : l ≠ D := ne_of_none kl hD
    refine lc_range (lo := 0) (n := n) (fun j H2 => Same H H2 ∧ H2 l = H' l ∧ H2 D = some (.lst (((List.range j).map fun k => ((b2n (Sb.at_ B' (blk m k i)) * 2 ^ k : Nat) : Int)).map V.int)))
      ⟨g.trans (sNew hD), upd_ne lD, upd_same⟩ (fun j H2 hj h2 => ?_) fun H2 h2 => ?_
    · obtain ⟨g2, kl2, kD⟩ := h2
      have ej : (0 : Int) + (j : Int) = ((j : Nat) : Int) := Int.zero_add _
      rw [ej]
      refine ⟨rfl, yes ?_⟩
      refine ⟨_, rfl, c, _, _, _, rfl, rfl, SqT.of (g2 _ _ hc), rfl, _, rfl, _, rfl, _, rfl, i, j, m, rfl, by omega, l2, ?_⟩
      have hblk : blk m j i < B'.length := by rw [hB]; exact blk_lt m j i
      refine ⟨d, _, _, _, rfl, rfl, SqT.of (g2 _ _ hd), atI_nat (zo_at hblk), _, rfl, _, _, rfl, rfl, ⟨by omega, by omega, by have := b2n_le (Sb.at_ B' (blk m j i)); omega⟩, ?_⟩
      refine ⟨_, kD, szl (by simp; omega), sUp g2 nD, by rw [upd_ne lD]; exact kl2, ?_⟩
      rw [upd_same, rg_succ, List.map_append]
      refine congrArg (fun z => some (HO.lst (_ ++ [V.int z]))) ?_
      exact shl_nat _ _
    · obtain ⟨g2, kl2, kD⟩ := h2
      rw [kl] at kl2
      refine ⟨_, rfl, .inl ⟨rfl, _, SqL.of kl2⟩, _, rfl, a, _, _, _, rfl, rfl, SqT.of (g2 _ _ ha), rfl, _, rfl, D, _, rfl, SqL.of kD, ?_⟩
      have hs : ((List.range n).map fun k => ((b2n (Sb.at_ B' (blk m k i)) * 2 ^ k : Nat) : Int)).sum = ((tot n m (Sb.at_ B') i : Nat) : Int) := rg_sum (fun k => b2n (Sb.at_ B' (blk m k i)) * 2 ^ k) n
      have ht2 : tot n m (Sb.at_ B') i < A'.length := by rw [hA]; exact tot_lt _ _ _ _
      refine ⟨b, _, _, _, rfl, rfl, SqT.of (g2 _ _ hb), (by rw [hs]; exact atI_nat (zo_at ht2)), ?_⟩
      refine ⟨l, _, _, rfl, rfl, kl2, szl (by simp; omega), sUp g2 nl, ?_, _, _, rfl⟩
      rw [upd_same, rg_succ, List.map_append]
      rfl
  · obtain ⟨g, kl, x, y, rfl⟩ := h
    refine ⟨_, rfl, _, rfl, _, _, rfl, rfl, .inl ⟨by omega, by omega⟩, _, rfl, l, _, rfl, .inl ⟨SqL.of kl, fun r1 hr1 => ?_⟩⟩
    refine ⟨sz (by show 2 ≤ 100000; decide), fun r2 hr2 => ?_⟩
    have s1 := sNew (o := .tup (((List.range (2 ^ (n * m))).map fun r => (b2n (Sb.at_ A' (tot n m (Sb.at_ B') r)) : Int)).map V.int)) hr1
    refine q _ _ (g.trans (s1.trans (sNew hr2))) (Tp.tab (b := r1) (by rw [upd_same, ← enm] <;> rfl) (sNew hr2 _ _ ?_))
    rw [upd_same]
    unfold tin zo
    rw [List.map_map (g := fun b => ((b2n b : Nat) : Int))]
    rfl

abbrev n_signs_of : List Str := ["many", "found", "place"]
theorem sc_signs_of : FnScope n_signs_of ["many"] (defScope s_signs_of) := ⟨rfl, rfl, rfl, by decide +kernel, rfl, by decide +kernel, by decide +kernel⟩
def spSigns : Sp := fun vs H Q _ => ∃ n : Nat, vs = [.int (n : Int)] ∧ n ≤ 8 ∧ ∀ r H', Same H H' → Tp H' r (dSs (sgs n)) → Q r H'
theorem ok_signs_of (T : Top K mg) : Ok P w K mg base 1 "signs_of" ["many"] spSigns := by
  refine mk (T.at_ (st := s_signs_of) 25) sc_signs_of (fun _ _ _ _ _ _ us hl => match us, hl with | [_], _ => rfl) (fun vs H Q E h => ?_) fun cdv A outer s H vs Q E hr h => ?_
  · obtain ⟨n, rfl, _⟩ := h
    rfl
  obtain ⟨n, rfl, h8, q⟩ := h
  refine ⟨_, pss_cons (ps_set (i := 1) sc_signs_of.nd rfl (Or.inl rfl) (pe_lst pa_nil))
    <| pss_cons (ps_for PassesOwn.never rfl (pi_range1 rfl T.range (pa_cons (pv 0) pa_nil)) (pg_name (i := 2) sc_signs_of.nd rfl (Or.inl rfl)) (pss_one (ps_expr (pe_bm PySem.F.plainAttrs_list PySem.F.slot_list_extend PySem.F.type_list_extend mt_extend (pv 1) (pa_cons (pe_lst (pa_cons (pe_tup (pa_cons (pv 2) (pa_cons pe_int pa_nil))) (pa_cons (pe_tup (pa_cons (pv 2) (pa_cons pe_int pa_nil))) pa_nil))) pa_nil)))))
    <| pss_one (ps_ret (pTup K T.tuple (pv 1))), ?_⟩
  refine ⟨sz (by show 0 ≤ 100000; decide), fun l hl => ?_⟩
  refine ⟨_, rfl, (n : Int), rfl, by omega, by omega, ?_⟩
  refine for_range (lo := 0) (n := n) (fun i σ H' => Same H H' ∧ (∃ xs, H' l = some (.lst xs) ∧ TpAll H' xs ((sgs i).map fun p => dS p.1 p.2)) ∧ ∃ x, σ = [some (.int (n : Int)), some (.ref l), x])
    ⟨sNew hl, ⟨[], upd_same, .nil⟩, _, rfl⟩ (fun i σ H' hi h => ?_) fun σ H' h => ?_
  · obtain ⟨g, ⟨xs, kl, hxs⟩, x, rfl⟩ := h
    have e0 : (0 : Int) + (i : Int) = ((i : Nat) : Int) := Int.zero_add _
    rw [e0]
    refine ⟨_, rfl, .inl ⟨rfl, _, SqL.of kl⟩, _, rfl, sz (by show 2 ≤ 100000; decide), fun p1 hp1 => ⟨_, rfl, sz (by show 2 ≤ 100000; decide), fun p2 hp2 => ⟨sz (by show 2 ≤ 100000; decide), fun p3 hp3 => ?_⟩⟩⟩
    have g1 := (sNew (o := .tup [.int (i : Int), .int 0]) hp1).trans ((sNew (o := .tup [.int (i : Int), .int 1]) hp2).trans (sNew (o := .lst [.ref p1, .ref p2]) hp3))
    have k1 : (upd (upd (upd H' p1 (.tup [.int (i : Int), .int 0])) p2 (.tup [.int (i : Int), .int 1])) p3 (.lst [.ref p1, .ref p2])) p1 = some (.tup [.int (i : Int), .int 0]) := sNew hp3 _ _ (sNew hp2 _ _ upd_same)
    have k2 : (upd (upd (upd H' p1 (.tup [.int (i : Int), .int 0])) p2 (.tup [.int (i : Int), .int 1])) p3 (.lst [.ref p1, .ref p2])) p2 = some (.tup [.int (i : Int), .int 1]) := sNew hp3 _ _ upd_same
    have k3 : (upd (upd (upd H' p1 (.tup [.int (i : Int), .int 0])) p2 (.tup [.int (i : Int), .int 1])) p3 (.lst [.ref p1, .ref p2])) p3 = some (.lst [.ref p1, .ref p2]) := upd_same
    have kl2 := g1 _ _ kl
    generalize upd (upd (upd H' p1 (.tup [.int (i : Int), .int 0])) p2 (.tup [.int (i : Int), .int 1])) p3 (.lst [.ref p1, .ref p2]) = H2 at g1 k1 k2 k3 kl2
    have lx := dSs_length hxs
    have kk : KT H2 (upd H2 l (.lst (xs ++ [.ref p1, .ref p2]))) := ktL kl2
    refine ⟨l, p3, xs, _, rfl, rfl, kl2, k3, sz (by show xs.length + 2 ≤ 100000; omega), sUp (g.trans g1) ?_, ⟨_, upd_same, ?_⟩, _, rfl⟩
    · cases z : H l with
      | none => rfl
      | some o => rw [z] at hl; cases hl
    · rw [sgs_succ, List.map_append]
      refine TpAll.app (TpAll.mono kk _ _ (tpsS g1 hxs)) (.cons ?_ (.cons ?_ .nil))
      · exact .tup (kk _ _ k1) (.cons (.int _) (.cons (.int _) .nil))
      · exact .tup (kk _ _ k2) (.cons (.int _) (.cons (.int _) .nil))
  · obtain ⟨g, ⟨xs, kl, hxs⟩, x, rfl⟩ := h
    refine ⟨_, rfl, l, _, rfl, .inl ⟨SqL.of kl, fun r hr => ?_⟩⟩
    exact q _ _ (g.trans (sNew hr)) (.tup upd_same (tpsS (sNew hr) hxs))

abbrev n_check_plain : List Str := ["many", "value"]
theorem sc_check_plain : FnScope n_check_plain ["many", "value"] (defScope s_check_plain) := ⟨rfl, rfl, rfl, by decide +kernel, rfl, by decide +kernel, by decide +kernel⟩
def spPlain : Sp := fun vs H Q _ => ∃ (n : Nat) (f : Fm) (v : V), vs = [.int (n : Int), v] ∧ 1 ≤ n ∧ n ≤ 8 ∧ Tp H v (dF f) ∧ f.ok n ∧ f.lvs ≤ 200 ∧ f.dep ≤ 60 ∧ ∀ H', Same H H' → Q v H'
theorem ok_check_plain (T : Top K mg) : Ok P w K mg base 4 "check_plain" ["many", "value"] spPlain := by
  have G_signs_of := ok_signs_of (P := P) (w := w) (base := base) T
  have G_check_formula := ok_check_formula (P := P) (w := w) (base := base) T
  refine mk (T.at_ (st := s_check_plain) 26) sc_check_plain (fun _ _ _ _ _ _ us hl => match us, hl with | [_, _], _ => rfl) (fun vs H Q E h => ?_) fun cdv A outer s H vs Q E hr h => ?_
  · obtain ⟨n, f, v, rfl, _⟩ := h
    rfl
  obtain ⟨n, f, v, rfl, h1, h8, hv, ok, h200, h60, q⟩ := h
  refine ⟨_, pss_one (ps_ret (pc G_check_formula hr (pa_cons (pe_tup (pa_cons (pv 0) (pa_cons (pc G_signs_of hr (pa_cons (pv 0) pa_nil)) (pa_cons (pe_tup (pa_cons pe_int pa_nil)) (pa_cons (pe_tup (pa_cons pe_int pa_nil)) pa_nil))))) (pa_cons (pv 1) pa_nil)))), ?_⟩
  refine ⟨_, rfl, _, rfl, n, rfl, h8, fun r H1 g1 d1 => ?_⟩
  refine ⟨sz (by show 1 ≤ 100000; decide), fun p1 hp1 => ⟨sz (by show 1 ≤ 100000; decide), fun p2 hp2 => ⟨sz (by show 4 ≤ 100000; decide), fun p3 hp3 => ?_⟩⟩⟩
  have s1 := sNew (o := .tup [.int 0]) hp1
  have s2 := sNew (o := .tup [.int 1]) hp2
  have s3 := sNew (o := .tup [.int (n : Int), r, .ref p1, .ref p2]) hp3
  have g2 := g1.trans (s1.trans (s2.trans s3))
  refine ⟨_, rfl, n, f, _, v, rfl, .tup upd_same (.cons (.int _) (.cons (tpS (s1.trans (s2.trans s3)) d1) (.cons ?_ (.cons ?_ .nil)))), tpS g2 hv, ok, h200, h60, fun H2 g3 => q H2 (g2.trans g3)⟩
  · exact Tp.ints (ns := [0]) (s3 _ _ (s2 _ _ upd_same))
  · exact Tp.ints (ns := [1]) (s3 _ _ upd_same)

abbrev n_moved_so : List Str := ["formula", "first"]
theorem sc_moved_so : FnScope n_moved_so ["formula", "first"] (defScope s_moved_so) := ⟨rfl, rfl, rfl, by decide +kernel, rfl, by decide +kernel, by decide +kernel⟩
def spMv (k : Nat) : Sp := fun vs H Q _ => ∃ (j : Nat) (f : Fm) (v : V), vs = [v, .int (j : Int)] ∧ Tp H v (dF f) ∧ f.dep < k ∧ ∀ r H', Same H H' → Tp H' r (dF (f.mv j)) → Q r H'
theorem ok_moved_so (T : Top K mg) : ∀ k : Nat, Ok P w K mg base (k + 1) "moved_so" ["formula", "first"] (spMv k)
  | 0 => (Ok.never (T.at_ (st := s_moved_so) 27) (fun _ _ _ _ _ _ us hl => match us, hl with | [_, _], _ => rfl) (fun vs H Q E h => by
      obtain ⟨j, f, v, _, _, h, _⟩ := h
      exact absurd h (Nat.not_lt_zero _))).mono (Nat.zero_le _)
  | k + 1 => by
    have G_moved_so := ok_moved_so T k
    have G_is_joined := ok_is_joined (P := P) (w := w) (base := base) T
    refine mk (T.at_ (st := s_moved_so) 27) sc_moved_so (fun _ _ _ _ _ _ us hl => match us, hl with | [_, _], _ => rfl) (fun vs H Q E h => ?_) fun cdv A outer s H vs Q E hr h => ?_
    · obtain ⟨j, f, v, rfl, _⟩ := h
      rfl
    obtain ⟨j, f, v, rfl, hv, hk, q⟩ := h
    refine ⟨_, pss_cons (ps_if (pt_val (pc G_is_joined hr (pa_cons (pv 0) pa_nil))) (pss_one (ps_ret (pe_tup (pa_cons (pIx K (pv 0) pe_int) (pa_cons (pc G_moved_so hr (pa_cons (pIx K (pv 0) pe_int) (pa_cons (pv 1) pa_nil))) (pa_cons (pc G_moved_so hr (pa_cons (pIx K (pv 0) pe_int) (pa_cons (pv 1) pa_nil))) pa_nil)))))) pss_nil)
    <| pss_one (ps_ret (pe_tup (pa_cons (pe_op op_add (pIx K (pv 0) pe_int) (pv 1)) (pa_cons (pIx K (pv 0) pe_int) pa_nil)))), ?_⟩
    refine ⟨_, rfl, f, v, rfl, hv, _, rfl, ?_⟩
    cases f with
    | sg i b =>
      obtain ⟨a, rfl, ha⟩ := hv.sgE
      refine iteF ?_
      refine ⟨_, rfl, a, _, _, _, rfl, rfl, SqT.of ha, rfl, _, rfl, _, _, rfl, rfl, _, rfl, a, _, _, _, rfl, rfl, SqT.of ha, rfl, sz (by show 2 ≤ 100000; decide), fun p hp => ?_⟩
      refine q _ _ (sNew hp) (.tup (xs := [.int ((i + j : Nat) : Int), .int (b2n b : Int)]) ?_ (.cons (.int _) (.cons (.int _) .nil)))
      rw [upd_same, Int.natCast_add] <;> rfl
    | bin o f g =>
      obtain ⟨a, x, y, rfl, ha, hx, hy⟩ := hv.binE
      have dd : Fm.dep (.bin o f g) = 1 + max f.dep g.dep := rfl
      refine iteT ?_
      refine ⟨_, rfl, a, _, _, _, rfl, rfl, SqT.of ha, rfl, _, rfl, a, _, _, _, rfl, rfl, SqT.of ha, rfl, _, rfl, j, f, x, rfl, hx, by omega, fun r1 H1 g1 d1 => ?_⟩
      refine ⟨_, rfl, a, _, _, _, rfl, rfl, SqT.of (g1 _ _ ha), rfl, _, rfl, j, g, y, rfl, tpS g1 hy, by omega, fun r2 H2 g2 d2 => ?_⟩
      refine ⟨sz (by show 3 ≤ 100000; decide), fun p hp => ?_⟩
      exact q _ _ (g1.trans (g2.trans (sNew hp))) (Tp.bin (o := o) (f := f.mv j) (g := g.mv j) upd_same (tpS (g2.trans (sNew hp)) d1) (tpS (sNew hp) d2))

abbrev n_put_formula_so : List Str := ["formula", "many", "inner", "turned", "near"]
theorem sc_put_formula_so : FnScope n_put_formula_so ["formula", "many", "inner", "turned"] (defScope s_put_formula_so) := ⟨rfl, rfl, rfl, by decide +kernel, rfl, by decide +kernel, by decide +kernel⟩
def spPut (k : Nat) : Sp := fun vs H Q _ => ∃ (m : Nat) (f g : Fm) (v u t : V), vs = [v, .int (m : Int), u, t] ∧ m ≤ 8 ∧ Tp H v (dF f) ∧ Tp H u (dF g) ∧ Tp H t (dF g.ng) ∧ g.dep ≤ 60 ∧ f.dep < k ∧ ∀ r H', Same H H' → Tp H' r (dF (Fm.put m g f)) → Q r H'
theorem b2n_one (b : Bool) : decide (V.int (b2n b : Int) = V.int 1) = b := by cases b <;> decide
theorem ok_put_formula_so (T : Top K mg) : ∀ k : Nat, Ok P w K mg base (k + 62) "put_formula_so" ["formula", "many", "inner", "turned"] (spPut k)
  | 0 => (Ok.never (T.at_ (st := s_put_formula_so) 28) (fun _ _ _ _ _ _ us hl => match us, hl with | [_, _, _, _], _ => rfl) (fun vs H Q E h => by
      obtain ⟨m, f, g, v, u, t, _, _, _, _, _, _, h, _⟩ := h
      exact absurd h (Nat.not_lt_zero _))).mono (Nat.zero_le _)
  | k + 1 => by
    have G_put_formula_so := ok_put_formula_so T k
    have G_moved_so := ok_moved_so (P := P) (w := w) (base := base) T 61
    have G_is_joined := ok_is_joined (P := P) (w := w) (base := base) T
    refine mk (T.at_ (st := s_put_formula_so) 28) sc_put_formula_so (fun _ _ _ _ _ _ us hl => match us, hl with | [_, _, _, _], _ => rfl) (fun vs H Q E h => ?_) fun cdv A outer s H vs Q E hr h => ?_
    · obtain ⟨m, f, g, v, u, t, rfl, _⟩ := h
      rfl
    obtain ⟨m, f, g, v, u, t, rfl, m8, hv, hu, ht, g60, hk, q⟩ := h
    refine ⟨_, pss_cons (ps_if (pt_val (pc G_is_joined hr (pa_cons (pv 0) pa_nil))) (pss_cons (ps_set (i := 4) sc_put_formula_so.nd rfl (Or.inl rfl) (pc G_put_formula_so hr (pa_cons (pIx K (pv 0) pe_int) (pa_cons (pv 1) (pa_cons (pv 2) (pa_cons (pv 3) pa_nil)))))) (pss_one (ps_ret (pe_tup (pa_cons (pIx K (pv 0) pe_int) (pa_cons (pv 4) (pa_cons (pc G_put_formula_so hr (pa_cons (pIx K (pv 0) pe_int) (pa_cons (pv 1) (pa_cons (pv 2) (pa_cons (pv 3) pa_nil))))) pa_nil))))))) pss_nil)
    <| pss_one (ps_ret (pc G_moved_so hr (pa_cons (pe_ifExp (pt_cmpR op_eq (pIx K (pv 0) pe_int) pe_int (nomark _)) (pv 2) (pv 3)) (pa_cons (pe_op op_mul (pIx K (pv 0) pe_int) (pv 1)) pa_nil)))), ?_⟩
    refine ⟨_, rfl, f, v, rfl, hv, _, rfl, ?_⟩
    cases f with
    | sg i b =>
      obtain ⟨a, rfl, ha⟩ := hv.sgE
      refine iteF ?_
      refine ⟨_, rfl, a, _, _, _, rfl, rfl, SqT.of ha, rfl, rfl, _, rfl, ?_⟩
      rw [b2n_one]
      have eim : (i : Int) * (m : Int) = ((i * m : Nat) : Int) := (Int.natCast_mul i m).symm
      have e1 : Fm.put m g (.sg i b) = Fm.mv (i * m) (if b = true then g else g.ng) := rfl
      rw [e1] at q
      cases b with
      | true =>
        refine iteT ⟨_, rfl, _, rfl, a, _, _, _, rfl, rfl, SqT.of ha, rfl, _, rfl, _, _, rfl, rfl, .inr ⟨by omega, by omega⟩, i * m, g, u, by rw [← eim] <;> rfl, hu, by omega, fun r H' g1 d1 => q r H' g1 ?_⟩
        rw [if_pos rfl]
        exact d1
      | false =>
        refine iteF ⟨_, rfl, _, rfl, a, _, _, _, rfl, rfl, SqT.of ha, rfl, _, rfl, _, _, rfl, rfl, .inr ⟨by omega, by omega⟩, i * m, g.ng, t, by rw [← eim] <;> rfl, ht, by rw [Fm.ng_dep]; omega, fun r H' g1 d1 => q r H' g1 ?_⟩
        rw [if_neg Bool.false_ne_true]
        exact d1
    | bin o f1 f2 =>
      obtain ⟨a, x, y, rfl, ha, hx, hy⟩ := hv.binE
      have dd : Fm.dep (.bin o f1 f2) = 1 + max f1.dep f2.dep := rfl
      refine iteT ?_
      refine ⟨_, rfl, a, _, _, _, rfl, rfl, SqT.of ha, rfl, _, rfl, _, rfl, _, rfl, m, f1, g, x, u, t, rfl, m8, hx, hu, ht, g60, by omega, fun r1 H1 g1 d1 => ?_⟩
      refine ⟨_, rfl, a, _, _, _, rfl, rfl, SqT.of (g1 _ _ ha), rfl, _, rfl, _, rfl, a, _, _, _, rfl, rfl, SqT.of (g1 _ _ ha), rfl, _, rfl, _, rfl, _, rfl, m, f2, g, y, u, t, rfl, m8, tpS g1 hy, tpS g1 hu, tpS g1 ht, g60, by omega, fun r2 H2 g2 d2 => ?_⟩
      refine ⟨sz (by show 3 ≤ 100000; decide), fun p hp => ?_⟩
      exact q _ _ (g1.trans (g2.trans (sNew hp))) (Tp.bin (o := o) (f := Fm.put m g f1) (g := Fm.put m g f2) upd_same (tpS (g2.trans (sNew hp)) d1) (tpS (sNew hp) d2))

abbrev n_put_in : List Str := ["outer", "inner"]
theorem sc_put_in : FnScope n_put_in ["outer", "inner"] (defScope s_put_in) := ⟨rfl, rfl, rfl, by decide +kernel, rfl, by decide +kernel, by decide +kernel⟩
theorem ok_put_in (T : Top K mg) : Ok P w K mg base 4 "put_in" ["outer", "inner"] spPutIn := by
  have G_check_both := ok_check_both (P := P) (w := w) (base := base) T
  have G_put_in_so := ok_put_in_so (P := P) (w := w) (base := base) T
  refine mk (T.at_ (st := s_put_in) 29) sc_put_in (fun _ _ _ _ _ _ us hl => match us, hl with | [_, _], _ => rfl) (fun vs H Q E h => ?_) fun cdv A outer s H vs Q E hr h => ?_
  · obtain ⟨n, m, A, B, u, v, rfl, _⟩ := h
    rfl
  obtain ⟨n, m, A', B', u, v, rfl, tt, q⟩ := h
  refine ⟨_, pss_cons (ps_expr (pc G_check_both hr (pa_cons (pv 0) (pa_cons (pv 1) pa_nil))))
    <| pss_one (ps_ret (pc G_put_in_so hr (pa_cons (pv 0) (pa_cons (pv 1) pa_nil)))), ?_⟩
  refine ⟨_, rfl, _, rfl, n, m, A', B', u, v, rfl, tt, fun H1 g1 => ?_⟩
  exact ⟨_, rfl, _, rfl, n, m, A', B', u, v, rfl, tt.mono g1, fun r H2 g2 d2 => q r H2 (g1.trans g2) d2⟩

abbrev n_put_formula : List Str := ["many", "formula", "inner_many", "inner"]
theorem sc_put_formula : FnScope n_put_formula ["many", "formula", "inner_many", "inner"] (defScope s_put_formula) := ⟨rfl, rfl, rfl, by decide +kernel, rfl, by decide +kernel, by decide +kernel⟩
def spPutF : Sp := fun vs H Q _ => ∃ (n m : Nat) (f g : Fm) (u v : V), vs = [.int (n : Int), u, .int (m : Int), v] ∧ 1 ≤ n ∧ 1 ≤ m ∧ n * m ≤ 8 ∧ Tp H u (dF f) ∧ f.ok n ∧ Tp H v (dF g) ∧ g.ok m ∧ f.lvs * g.lvs ≤ 200 ∧ f.dep + g.dep ≤ 60 ∧
  ∀ r H', Same H H' → Tp H' r (dF (Fm.put m g f)) → Q r H'
theorem ok_put_formula (T : Top K mg) : Ok P w K mg base 124 "put_formula" ["many", "formula", "inner_many", "inner"] spPutF := by
  have G_check_plain := ok_check_plain (P := P) (w := w) (base := base) T
  have G_check_many := ok_check_many (P := P) (w := w) (base := base) T
  have G_check_together := ok_check_together (P := P) (w := w) (base := base) T
  have G_leaves_so := ok_leaves_so (P := P) (w := w) (base := base) T 61
  have G_depth_so := ok_depth_so (P := P) (w := w) (base := base) T 61
  have G_put_formula_so := ok_put_formula_so (P := P) (w := w) (base := base) T 61
  have G_negated_so := ok_negated_so (P := P) (w := w) (base := base) T 61
  refine mk (T.at_ (st := s_put_formula) 30) sc_put_formula (fun _ _ _ _ _ _ us hl => match us, hl with | [_, _, _, _], _ => rfl) (fun vs H Q E h => ?_) fun cdv A outer s H vs Q E hr h => ?_
  · obtain ⟨n, m, f, g, u, v, rfl, _⟩ := h
    rfl
  obtain ⟨n, m, f, g, u, v, rfl, h1, h2, h3, hu, fok, hv, gok, hl, hd, q⟩ := h
  have n8 : n ≤ 8 := Nat.le_trans (by have := Nat.mul_le_mul_left n h2; omega) h3
  have m8 : m ≤ 8 := Nat.le_trans (by have := Nat.mul_le_mul_right m h1; omega) h3
  have fp := f.lvs_pos
  have gp := g.lvs_pos
  have fl : f.lvs ≤ 200 := Nat.le_trans (by have := Nat.mul_le_mul_left f.lvs gp; omega) hl
  have gl : g.lvs ≤ 200 := Nat.le_trans (by have := Nat.mul_le_mul_right g.lvs fp; omega) hl
  refine ⟨_, pss_cons (ps_expr (pc G_check_plain hr (pa_cons (pc G_check_many hr (pa_cons (pv 0) pa_nil)) (pa_cons (pv 1) pa_nil))))
    <| pss_cons (ps_expr (pc G_check_plain hr (pa_cons (pc G_check_many hr (pa_cons (pv 2) pa_nil)) (pa_cons (pv 3) pa_nil))))
    <| pss_cons (ps_expr (pc G_check_together hr (pa_cons (pv 0) (pa_cons (pv 2) pa_nil))))
    <| pss_cons (ps_if (pt_cmpR op_gt (pe_op op_sub (pe_op op_mul (pe_op op_mul pe_int (pc G_leaves_so hr (pa_cons (pv 1) pa_nil))) (pc G_leaves_so hr (pa_cons (pv 3) pa_nil))) pe_int) (pgi T.ti) (nomark _)) (pss_one ps_never) pss_nil)
    <| pss_cons (ps_if (pt_cmpR op_gt (pe_op op_add (pc G_depth_so hr (pa_cons (pv 1) pa_nil)) (pc G_depth_so hr (pa_cons (pv 3) pa_nil))) (pgi T.di) (nomark _)) (pss_one ps_never) pss_nil)
    <| pss_one (ps_ret (pc G_put_formula_so hr (pa_cons (pv 1) (pa_cons (pv 2) (pa_cons (pv 3) (pa_cons (pc G_negated_so hr (pa_cons (pv 3) pa_nil)) pa_nil)))))), ?_⟩
  refine ⟨_, rfl, n, rfl, h1, n8, _, rfl, n, f, u, rfl, h1, n8, hu, fok, fl, by omega, fun H1 g1 => ?_⟩
  refine ⟨_, rfl, m, rfl, h2, m8, _, rfl, m, g, v, rfl, h2, m8, tpS g1 hv, gok, gl, by omega, fun H2 g2 => ?_⟩
  have g12 := g1.trans g2
  have hu2 := tpS g12 hu
  have hv2 := tpS g12 hv
  refine ⟨_, rfl, _, rfl, n, m, rfl, n8, h3, ?_⟩
  refine ⟨_, rfl, f, u, rfl, hu2, by omega, _, _, rfl, rfl, .inl ⟨by omega, by omega⟩, _, rfl, g, v, rfl, hv2, by omega, _, _, rfl, rfl, .inr ⟨by omega, by omega⟩, _, _, rfl, rfl, _, _, rfl, rfl, _, rfl, ?_⟩
  have c1 : decide ((400 : Int) < 2 * (f.lvs : Int) * (g.lvs : Int) - 1) = false := decide_eq_false (by
    have z : ((f.lvs * g.lvs : Nat) : Int) = (f.lvs : Int) * (g.lvs : Int) := Int.natCast_mul _ _
    have z2 : 2 * (f.lvs : Int) * (g.lvs : Int) = 2 * ((f.lvs : Int) * (g.lvs : Int)) := Int.mul_assoc _ _ _
    omega)
  show if decide ((400 : Int) < 2 * (f.lvs : Int) * (g.lvs : Int) - 1) = true then _ else _
  rw [c1]
  refine iteF ?_
  refine ⟨_, rfl, f, u, rfl, hu2, by omega, _, rfl, g, v, rfl, hv2, by omega, _, _, rfl, rfl, _, _, rfl, rfl, _, rfl, ?_⟩
  have c2 : decide ((60 : Int) < (f.dep : Int) + (g.dep : Int)) = false := decide_eq_false (by omega)
  show if decide ((60 : Int) < (f.dep : Int) + (g.dep : Int)) = true then _ else _
  rw [c2]
  refine iteF ?_
  refine ⟨_, rfl, _, rfl, _, rfl, _, rfl, g, v, rfl, hv2, by omega, fun t H3 g3 d3 => ?_⟩
  exact ⟨m, f, g, u, v, t, rfl, m8, tpS g3 hu2, tpS g3 hv2, d3, by omega, by omega, fun r H4 g4 d4 => q r H4 (g12.trans (g3.trans g4)) d4⟩
end
end Sb


namespace Sb
open PySem PySem.Spec
open PyProof.Rows L2
section
variable {P : Program} {w : World} {K : PySem.W.Frag} {mg : Str → Option Value} {base : Heap}

/-! ### the law's draws: the state -/
abbrev kC : Key := Sum.inr "cells"
abbrev kL : Key := Sum.inr "lefts"
abbrev kA : Key := Sum.inr "at"
theorem kCL : ¬ kC = kL := by decide +kernel
theorem kCA : ¬ kC = kA := by decide +kernel
theorem kLA : ¬ kL = kA := by decide +kernel
def kvS (c l : Addr) (n : Int) : List (Key × V) := [(kC, .ref c), (kL, .ref l), (kA, .int n)]
theorem kv_c {c l : Addr} {n : Int} : valV (kvS c l n) kC = some (.ref c) := valV_pos rfl
theorem kv_l {c l : Addr} {n : Int} : valV (kvS c l n) kL = some (.ref l) := (valV_neg kCL).trans (valV_pos rfl)
theorem kv_a {c l : Addr} {n : Int} : valV (kvS c l n) kA = some (.int n) := (valV_neg kCA).trans ((valV_neg kLA).trans (valV_pos rfl))
theorem put3 {a b c : Key} {x y z u : V} (h1 : ¬ a = c) (h2 : ¬ b = c) : putK [(a, x), (b, y), (c, z)] c u = [(a, x), (b, y), (c, u)] := by
  simp [putK, h1, h2]
theorem mk3 {a b c : Key} {x y z : V} (h0 : ¬ a = b) (h1 : ¬ a = c) (h2 : ¬ b = c) : mergeK [] [(a, x), (b, y), (c, z)] = [(a, x), (b, y), (c, z)] := by
  simp [mergeK, putK, h0, h1, h2]
theorem kv_put {c l : Addr} {n m : Int} : putK (kvS c l n) kA (.int m) = kvS c l m := put3 kCA kLA
theorem kv_mk {c l : Addr} {n : Int} : mergeK [] (kvS c l n) = kvS c l n := mk3 kCL kCA kLA
/-- the state of the draws at d: so many draws at most -/
structure Dr (H : Hp) (d c l : Addr) (N : Nat) : Prop where
  d_ : ∃ n : Nat, n ≤ N ∧ H d = some (.dK (kvS c l (n : Int)))
  c_ : ∃ cs ls : List Int, H c = some (.lst (cs.map V.int)) ∧ H l = some (.lst (ls.map V.int)) ∧ ls.length = cs.length ∧ 0 < cs.length ∧ cs.length ≤ 63
  ne : c ≠ l
theorem Dr.more {H : Hp} {d c l : Addr} {N M : Nat} (h : Dr H d c l N) (e : N ≤ M) : Dr H d c l M := by
  obtain ⟨⟨n, h1, h2⟩, h3, h4⟩ := h
  exact ⟨⟨n, Nat.le_trans h1 e, h2⟩, h3, h4⟩
theorem Dr.same {H H' : Hp} {d c l : Addr} {N : Nat} (h : Dr H d c l N) (g : Same H H') : Dr H' d c l N := by
  obtain ⟨⟨n, h1, h2⟩, ⟨cs, ls, h3, h4, h5⟩, h6⟩ := h
  exact ⟨⟨n, h1, g _ _ h2⟩, ⟨cs, ls, g _ _ h3, g _ _ h4, h5⟩, h6⟩
/-- what the draws' state is not -/
theorem Dr.off {H : Hp} {d c l : Addr} {N : Nat} (h : Dr H d c l N) {p : Addr} (hp : H p = none) : p ≠ d ∧ p ≠ l := by
  obtain ⟨⟨n, _, h2⟩, ⟨cs, ls, _, h4, _⟩, _⟩ := h
  exact ⟨fun z => (by rw [z, h2] at hp; cases hp), fun z => (by rw [z, h4] at hp; cases hp)⟩
theorem Dr.kt {H H' : Hp} {d c l : Addr} {N : Nat} (h : Dr H d c l N) (g : Kp d l H H') : KT H H' := fun b xs e => by
  obtain ⟨⟨n, _, h2⟩, ⟨cs, ls, _, h4, _⟩, _⟩ := h
  exact g b _ e (fun z => by rw [z, h2] at e; cases e) (fun z => by rw [z, h4] at e; cases e)
theorem Kp.free {d l : Addr} {H H' : Hp} {c : Addr} {N : Nat} (h : Dr H d c l N) (g : Kp d l H H') {p : Addr} (hp : H' p = none) (hd : H' d ≠ none) (hl : H' l ≠ none) : H p = none := by
  cases e : H p with
  | none => rfl
  | some o =>
    rw [g p o e (fun z => hd (by rw [← z]; exact hp)) (fun z => hl (by rw [← z]; exact hp))] at hp
    cases hp
theorem Dr.full {H : Hp} {d c l : Addr} {N : Nat} (h : Dr H d c l N) : H d ≠ none ∧ H l ≠ none := by
  obtain ⟨⟨n, _, h2⟩, ⟨cs, ls, _, h4, _⟩, _⟩ := h
  exact ⟨by rw [h2]; simp, by rw [h4]; simp⟩

abbrev n_law_mixed : List Str := ["_law_cell", "_law_k"]
theorem sc_law_mixed : FnScope n_law_mixed ["_law_cell", "_law_k"] (defScope s_law_mixed) := ⟨rfl, rfl, rfl, by decide +kernel, rfl, by decide +kernel, by decide +kernel⟩
def spMixed : Sp := fun vs H Q _ => ∃ x k : Int, vs = [.int x, .int k] ∧ 0 ≤ k ∧ k < 1152921504606846976 ∧ ∀ r : Int, 0 ≤ r → r < 2147483629 → Q (.int r) H
theorem ok_law_mixed (T : Top K mg) : Ok P w K mg base 1 "_law_mixed" ["_law_cell", "_law_k"] spMixed := by
  refine mk (T.at_ (st := s_law_mixed) 31) sc_law_mixed (fun _ _ _ _ _ _ us hl => match us, hl with | [_, _], _ => rfl) (fun vs H Q E h => ?_) fun cdv A outer s H vs Q E hr h => ?_
  · obtain ⟨x, k, rfl, _⟩ := h
    rfl
  obtain ⟨x, k, rfl, h0, h1, q⟩ := h
  refine ⟨_, pss_cons (ps_set (i := 0) sc_law_mixed.nd rfl (Or.inl rfl) (pe_op op_mod (pInt T.int (pv 0)) pe_int))
    <| pss_one (ps_ret (pe_op op_mod (pe_op op_mul (pe_op op_mod (pe_op op_add (pe_op op_add (pe_op op_mul (pv 0) (pe_op op_add pe_int (pe_op op_mul (pe_op op_mul pe_int (pv 1)) (pv 1)))) (pe_op op_mul pe_int (pv 1))) pe_int) pe_int) pe_int) pe_int)), ?_⟩
  have hx0 := Int.emod_nonneg x (show (2147483647 : Int) ≠ 0 by decide)
  have hx1 := Int.emod_lt_of_pos x (show (0 : Int) < 2147483647 by decide)
  refine ⟨_, rfl, _, rfl, _, _, rfl, rfl, (by show (0 : Int) < 2147483647; decide), ?_⟩
  refine ⟨_, rfl, _, rfl, _, _, rfl, rfl, .inl ⟨by decide, by decide⟩, _, rfl, _, _, rfl, rfl, .inl ⟨by omega, by omega⟩, _, _, rfl, rfl, _, _, rfl, rfl, .inl ⟨by omega, by omega⟩, ?_⟩
  refine ⟨_, rfl, _, _, rfl, rfl, .inl ⟨by decide, by decide⟩, _, _, rfl, rfl, _, _, rfl, rfl, _, _, rfl, rfl, (by show (0 : Int) < 2147483647; decide), ?_⟩
  refine ⟨_, _, rfl, rfl, .inr ⟨by decide, by decide⟩, _, _, rfl, rfl, (by show (0 : Int) < 2147483629; decide), ?_⟩
  exact q _ (Int.emod_nonneg _ (by decide)) (Int.emod_lt_of_pos _ (by decide))

abbrev n_law_begin : List Str := ["_law_script", "_law_cells_so", "_law_cell"]
theorem sc_law_begin : FnScope n_law_begin ["_law_script"] (defScope s_law_begin) := ⟨rfl, rfl, rfl, by decide +kernel, rfl, by decide +kernel, by decide +kernel⟩
def spBegin (K : PySem.W.Frag) : Sp := fun vs H Q _ => ∃ (a : Addr) (ns : List Int), vs = [.ref a] ∧ SqL K H a (ns.map V.int) ∧ ns.length ≤ 63 ∧ ∀ d c l H', Same H H' → Dr H' d c l 0 → Q (.ref d) H'
theorem dpInts {H : Hp} : ∀ ns : List Int, DpAll K H (ns.map V.int) (ns.map PyData.int)
  | [] => .nil
  | n :: r => .cons (.int n) (dpInts r)
theorem intsL_shaped (ns : List Int) : SeqAt.shaped (.list (ns.map PyData.int)) = true := by
  have a := all_lay (ns.map PyData.int) (fun d hd => by
    obtain ⟨n, _, rfl⟩ := List.mem_map.mp hd
    simp only [PyData.canLay0])
  have b := all_depth (k := 0) (ns.map PyData.int) (fun d hd => by
    obtain ⟨n, _, rfl⟩ := List.mem_map.mp hd
    simp [PyData.depth])
  unfold SeqAt.shaped
  rw [Bool.and_eq_true]
  refine ⟨by simpa only [PyData.canLay0] using a, decide_eq_true ?_⟩
  simp only [PyData.depth]
  omega
theorem ok_law_begin (T : Top K mg) : Ok P w K mg base 1 "_law_begin" ["_law_script"] (spBegin K) := by
  refine mk (T.at_ (st := s_law_begin) 32) sc_law_begin (fun _ _ _ _ _ _ us hl => match us, hl with | [_], _ => rfl) (fun vs H Q E h => ?_) fun cdv A outer s H vs Q E hr h => ?_
  · obtain ⟨a, ns, rfl, _⟩ := h
    rfl
  obtain ⟨a, ns, rfl, hS, h63, q⟩ := h
  refine ⟨_, pss_cons (ps_set (i := 1) sc_law_begin.nd rfl (Or.inl rfl) (pe_ifExp (pt_cmpR (opNd K hr) (pv 0) (pe_lst pa_nil) (nomark _)) (pList K T.list (pv 0)) (pe_lst (pa_cons pe_int pa_nil))))
    <| pss_one (ps_ret (pe_disp (pps_cons pe_str (pv 1) (pps_cons pe_str (pe_lc (own := [("_law_cell", 2)]) (g := gName 2) rfl sc_law_begin.nd (pi_list (pv 1)) (blkOk_by (N := n_law_begin) (sc := defScope s_law_begin) (by decide +kernel)) (fun _ _ _ _ _ => (pg_name (i := 2) sc_law_begin.nd rfl (Or.inl rfl))) (fun _ _ _ _ _ => pts_nil) (fun _ _ _ _ _ => (pe_ifExp (pt_cmpR op_ge (pv 2) (pe_op op_pow pe_int pe_int) (nomark _)) (pv 2) pe_int))) (pps_cons pe_str pe_int pps_nil))) (by rfl) (by rfl) (fun z => by cases z) (by decide))), ?_⟩
  -- from a list of the cells on
  have go : ∀ (cl : Addr) (cs : List Int) (H1 : Hp), Same H H1 → H1 cl = some (.lst (cs.map V.int)) → 0 < cs.length → cs.length ≤ 63 → ∀ (Qz : VK), (∀ d c l H', Same H H' → Dr H' d c l 0 → Qz (.ref d) H') →
      (tDisp [(tC (V.str "cells"), tVar 1), (tC (V.str "lefts"), tLc (iList K (tVar 1)) (gName 2) tYes (tIf (tTest (tOp (rI0 fun i j => V.bl (decide (j ≤ i))) (tVar 2) (tOp (rI CPow fun i j => V.int (i ^ j.toNat)) (tC (V.int 10)) (tC (V.int 18))))) (tVar 2) (tC (V.int 0))) [2]), (tC (V.str "at"), tC (V.int 0))])
        [some (.ref a), some (.ref cl), none] H1 Qz := by
    intro cl cs H1 g hc hp hl Qz qz p hpn
    have nc : cl ≠ p := ne_of_none hc hpn
    have g1 := g.trans (sNew (o := .dK []) hpn)
    have hc1 : (upd H1 p (.dK [])) cl = some (.lst (cs.map V.int)) := sNew hpn _ _ hc
    have hp1 : (upd H1 p (.dK [])) p = some (.dK []) := upd_same
    have gp : Same H1 (upd H1 p (.dK [])) := sNew hpn
    generalize hH2 : upd H1 p (.dK []) = H2 at g1 hc1 hp1 gp
    have hpH : H p = none := g.free hpn
    refine ⟨_, rfl, _, rfl, cl, rfl, ⟨_, SqL.of hc1⟩, fun D hD => ?_⟩
    have nD : cl ≠ D := ne_of_none hc1 hD
    have nPD : p ≠ D := ne_of_none hp1 hD
    have HD : H D = none := g1.free hD
    refine lc_list (xs := cs.map V.int) (fun i H3 => Same H H3 ∧ H3 cl = some (.lst (cs.map V.int)) ∧ H3 p = some (.dK []) ∧ ∃ ls : List Int, H3 D = some (.lst (ls.map V.int)) ∧ ls.length = i)
      ⟨g1.trans (sNew hD), by rw [upd_ne nD]; exact hc1, by rw [upd_ne nPD]; exact hp1, [], upd_same, rfl⟩ (fun i H3 _ h => SqL.of h.2.1) (fun i x H3 e h => ?_) fun H3 h => ?_
    · obtain ⟨g3, k1, k2, ls, k3, k4⟩ := h
      rw [List.getElem?_map] at e
      obtain ⟨n, en, rfl⟩ : ∃ n, cs[i]? = some n ∧ V.int n = x := by
        cases z : cs[i]? with
        | none => rw [z] at e; cases e
        | some n => rw [z] at e; exact ⟨n, rfl, Option.some.inj e⟩
      have hi : i < cs.length := (List.getElem?_eq_some_iff.mp en).1
      refine ⟨rfl, yes ?_⟩
      have fin : ∀ z : Int, ∃ acc, H3 D = some (.lst acc) ∧ acc.length < sizeLine ∧ (Same H (upd H3 D (.lst (acc ++ [V.int z]))) ∧ (upd H3 D (.lst (acc ++ [V.int z]))) cl = some (.lst (cs.map V.int)) ∧ (upd H3 D (.lst (acc ++ [V.int z]))) p = some (.dK []) ∧ ∃ ls : List Int, (upd H3 D (.lst (acc ++ [V.int z]))) D = some (.lst (ls.map V.int)) ∧ ls.length = i + 1) :=
        fun z => ⟨_, k3, szl (by rw [List.length_map]; omega), sUp g3 HD, by rw [upd_ne nD]; exact k1, by rw [upd_ne nPD]; exact k2, ls ++ [z], by rw [upd_same, List.map_append] <;> rfl, by rw [List.length_append, k4] <;> rfl⟩
      refine ⟨_, rfl, _, _, rfl, rfl, ⟨by decide, by decide, by decide⟩, _, _, rfl, rfl, _, rfl, ite2 (fun b => ?_) fun b => ?_⟩
      · exact ⟨_, rfl, fin n⟩
      · exact fin 0
    · obtain ⟨g3, k1, k2, ls, k3, k4⟩ := h
      rw [List.length_map] at k4
      have kvd : [(V.str "cells", V.ref cl), (V.str "lefts", V.ref D), (V.str "at", V.int 0)] = (kvS cl D 0).map fun kv => (kV kv.1, kv.2) := rfl
      refine ⟨k2, kvS cl D 0, kvd, (by show 3 ≤ 15; decide), ?_⟩
      rw [kv_mk]
      refine qz p cl D _ (sUp g3 hpH) ⟨⟨0, Nat.le_refl _, upd_same⟩, ⟨cs, ls, by rw [upd_ne nc]; exact k1, by rw [upd_ne nPD.symm]; exact k3, k4, hp, hl⟩, nD⟩
  refine ⟨_, rfl, sz (by show 0 ≤ 100000; decide), fun e0 he0 => ?_⟩
  refine ⟨.list (ns.map PyData.int), .list [], .lst ((sNew he0).seq hS) (dpInts ns), .lst (SqL.of upd_same) .nil, intsL_shaped ns, intsL_shaped [], _, rfl, ?_⟩
  cases ns with
  | nil =>
    have e : (!PyData.eqv (.list (([] : List Int).map PyData.int)) (.list [])) = false := by simp [PyData.eqv, PyData.eqvAll]
    rw [e]
    refine iteF ⟨sz (by show 1 ≤ 100000; decide), fun p hp => ?_⟩
    exact go p [0] _ ((sNew he0).trans (sNew hp)) upd_same (by decide) (by decide) Q q
  | cons n r =>
    have e : (!PyData.eqv (.list ((n :: r).map PyData.int)) (.list [])) = true := by simp [PyData.eqv, PyData.eqvAll]
    rw [e]
    refine iteT ⟨_, rfl, a, _, rfl, .inl ((sNew he0).seq hS), fun p hp => ?_⟩
    exact go p (n :: r) _ ((sNew he0).trans (sNew hp)) upd_same (Nat.succ_pos _) h63 Q q
end
end Sb


namespace Sb
open PySem PySem.Spec
open PyProof.Rows L2
section
variable {P : Program} {w : World} {K : PySem.W.Frag} {mg : Str → Option Value} {base : Heap}

theorem dga {H : Hp} {d c l : Addr} {n : Int} (h : H d = some (.dK (kvS c l n))) : DGet H d (V.str "at") (some (.int n)) := by
  have a := DGet.k (k := kA) h
  rw [kv_a] at a
  exact a
theorem dgc {H : Hp} {d c l : Addr} {n : Int} (h : H d = some (.dK (kvS c l n))) : DGet H d (V.str "cells") (some (.ref c)) := by
  have a := DGet.k (k := kC) h
  rw [kv_c] at a
  exact a
theorem dgl {H : Hp} {d c l : Addr} {n : Int} (h : H d = some (.dK (kvS c l n))) : DGet H d (V.str "lefts") (some (.ref l)) := by
  have a := DGet.k (k := kL) h
  rw [kv_l] at a
  exact a

theorem ixN_n {n j : Nat} (hj : j < n) : ixN n (j : Int) = some j := by
  unfold ixN
  rw [if_pos (by omega), if_pos (by omega)]
  simp

abbrev n_law_draw : List Str := ["_law_state", "_law_limit", "_law_at", "_law_place", "_law_left", "_law_mixed_here"]
theorem sc_law_draw : FnScope n_law_draw ["_law_state", "_law_limit"] (defScope s_law_draw) := ⟨rfl, rfl, rfl, by decide +kernel, rfl, by decide +kernel, by decide +kernel⟩
def spDraw : Sp := fun vs H Q _ => ∃ (d c l : Addr) (N : Nat) (lim : Int), vs = [.ref d, .int lim] ∧ Dr H d c l N ∧ N < 500000000000000000 ∧ 1 ≤ lim ∧ lim < 1073741824 ∧ ∀ r H', 0 ≤ r → r < lim → Dr H' d c l (N + 1) → Kp d l H H' → Q (.int r) H'
theorem ok_law_draw (T : Top K mg) : Ok P w K mg base 2 "_law_draw" ["_law_state", "_law_limit"] spDraw := by
  have G_law_mixed := ok_law_mixed (P := P) (w := w) (base := base) T
  refine mk (T.at_ (st := s_law_draw) 33) sc_law_draw (fun _ _ _ _ _ _ us hl => match us, hl with | [_, _], _ => rfl) (fun vs H Q E h => ?_) fun cdv A outer s H vs Q E hr h => ?_
  · obtain ⟨d, c, l, N, lim, rfl, _⟩ := h
    rfl
  obtain ⟨d, c, l, N, lim, rfl, ⟨⟨n, hn, hd⟩, ⟨cs, ls, hc, hl, hlen, h0, h63⟩, hne⟩, hN, hlim, hlim2, q⟩ := h
  have hu := hu_of hr
  refine ⟨_, pss_cons (ps_set (i := 2) sc_law_draw.nd rfl (Or.inl rfl) (pe_dget hu (pv 0) pe_str (fun _ _ => rfl)))
    <| pss_cons (ps_dput hu (pv 0) pe_str (pe_op op_add (pv 2) pe_int) rfl)
    <| pss_cons (ps_set (i := 3) sc_law_draw.nd rfl (Or.inl rfl) (pe_op op_mod (pInt T.int (pv 2)) (pLen K T.len (pe_dget hu (pv 0) pe_str (fun _ _ => rfl)))))
    <| pss_cons (ps_set (i := 4) sc_law_draw.nd rfl (Or.inl rfl) (pIxL K (pe_dget hu (pv 0) pe_str (fun _ _ => rfl)) (pv 3)))
    <| pss_cons (ps_if (pt_cmpR op_gt (pv 4) pe_int (nomark _)) (pss_cons (ps_asg (pe_op op_fdiv (pv 4) (pv 1)) (pg_sub (pe_dget hu (pv 0) pe_str (fun _ _ => rfl)) (pv 3) set_list)) (pss_one (ps_ret (pe_op op_mod (pInt T.int (pv 4)) (pv 1))))) pss_nil)
    <| pss_cons (ps_set (i := 5) sc_law_draw.nd rfl (Or.inl rfl) (pc G_law_mixed hr (pa_cons (pc G_law_mixed hr (pa_cons (pIxL K (pe_dget hu (pv 0) pe_str (fun _ _ => rfl)) (pv 3)) (pa_cons (pv 2) pa_nil))) (pa_cons (pe_op op_add pe_int (pv 2)) pa_nil))))
    <| pss_one (ps_ret (pe_op op_mod (pe_op op_fdiv (pInt T.int (pe_op op_add (pe_op op_mul (pv 5) pe_int) (pc G_law_mixed hr (pa_cons (pv 5) (pa_cons (pe_op op_add pe_int (pv 2)) pa_nil))))) pe_int) (pv 1))), ?_⟩
  have ncd : c ≠ d := fun z => by rw [z, hd] at hc; cases hc
  have nld : l ≠ d := fun z => by rw [z, hd] at hl; cases hl
  generalize hH1 : upd H d (.dK (kvS c l ((n + 1 : Nat) : Int))) = H1
  have hd1 : H1 d = some (.dK (kvS c l ((n + 1 : Nat) : Int))) := by rw [← hH1]; exact upd_same
  have hc1 : H1 c = some (.lst (cs.map V.int)) := by rw [← hH1, upd_ne ncd]; exact hc
  have hl1 : H1 l = some (.lst (ls.map V.int)) := by rw [← hH1, upd_ne nld]; exact hl
  have k1 : Kp d l H H1 := fun b o e n1 n2 => by rw [← hH1, upd_ne n1]; exact e
  have hput : DPut H d (V.str "at") (.int ((n : Int) + 1)) H1 := by
    have a := DPut.k (k := kA) (v := .int ((n : Int) + 1)) hd (szl (by show 3 ≤ 100000; decide))
    rw [kv_put] at a
    rw [← hH1]
    exact a
  have e63 : ((cs.map V.int).length : Int) = (cs.length : Int) := by rw [List.length_map]
  have p0 : (0 : Int) < (cs.length : Int) := Int.ofNat_lt.mpr h0
  have hx0 := Int.emod_nonneg (n : Int) (show (cs.length : Int) ≠ 0 by omega)
  have hx1 := Int.emod_lt_of_pos (n : Int) p0
  obtain ⟨j, hj⟩ := Int.eq_ofNat_of_zero_le hx0
  rw [hj] at hx1
  have hjl : j < cs.length := Int.ofNat_lt.mp hx1
  have hjs : j < ls.length := by rw [hlen]; exact hjl
  refine ⟨_, rfl, d, _, rfl, dga hd, ?_⟩
  refine ⟨_, rfl, _, _, rfl, rfl, _, rfl, d, H1, rfl, hput, ?_⟩
  refine ⟨_, rfl, _, rfl, _, rfl, d, _, rfl, dgc hd1, c, _, rfl, .inl (SqL.of hc1), _, _, rfl, rfl, (by rw [e63]; exact p0), ?_⟩
  simp only [e63, hj]
  have al : atI (ls.map V.int) (j : Int) = some (.int ls[j]) := atI_nat (by rw [List.getElem?_map, List.getElem?_eq_getElem hjs] <;> rfl)
  have ac : atI (cs.map V.int) (j : Int) = some (.int cs[j]) := atI_nat (by rw [List.getElem?_map, List.getElem?_eq_getElem hjl] <;> rfl)
  generalize ls[j] = lv at al
  generalize cs[j] = cv at ac
  refine ⟨_, rfl, d, _, rfl, dgl hd1, _, rfl, l, _, _, _, rfl, rfl, SqL.of hl1, al, ?_⟩
  have dr1 : Dr H1 d c l (N + 1) := ⟨⟨n + 1, Nat.add_le_add_right hn 1, hd1⟩, ⟨cs, ls, hc1, hl1, hlen, h0, h63⟩, hne⟩
  refine ⟨_, rfl, _, _, rfl, rfl, _, rfl, ite2 (fun hb => ?_) fun hb => ?_⟩
  · refine ⟨_, rfl, _, rfl, _, _, rfl, rfl, ⟨by omega, by omega⟩, ?_⟩
    refine ⟨_, rfl, d, _, rfl, dgl hd1, _, rfl, l, _, _, j, rfl, rfl, hl1, ixN_n (by rw [List.length_map]; exact hjs), ?_⟩
    generalize hH2 : upd H1 l (.lst ((ls.map V.int).set j (.int (lv / lim)))) = H2
    have k2 : Kp d l H1 H2 := fun b o e n1 n2 => by rw [← hH2, upd_ne n2]; exact e
    refine ⟨_, rfl, _, rfl, _, rfl, _, _, rfl, rfl, (by omega), ?_⟩
    refine q _ H2 (Int.emod_nonneg _ (by omega)) (Int.emod_lt_of_pos _ (by omega)) ⟨⟨n + 1, Nat.add_le_add_right hn 1, by rw [← hH2, upd_ne nld.symm]; exact hd1⟩, ⟨cs, ls.set j (lv / lim), by rw [← hH2, upd_ne hne]; exact hc1, by rw [← hH2, upd_same, List.map_set], by rw [List.length_set]; exact hlen, h0, h63⟩, hne⟩ (k1.trans k2)
  · have hn2 : (n : Int) < 500000000000000000 := by omega
    have hn0 : (0 : Int) ≤ (n : Int) := Int.natCast_nonneg n
    refine ⟨_, rfl, d, _, rfl, dgc hd1, _, rfl, c, _, _, _, rfl, rfl, SqL.of hc1, ac, _, rfl, cv, n, rfl, hn0, by omega, fun r1 a1 b1 => ?_⟩
    refine ⟨_, rfl, _, _, rfl, rfl, r1, 40 + n, rfl, by omega, by omega, fun r2 a2 b2 => ?_⟩
    refine ⟨_, rfl, _, _, rfl, rfl, .inl ⟨by omega, by omega⟩, _, rfl, _, rfl, _, _, rfl, rfl, r2, 7 + n, rfl, by omega, by omega, fun r3 a3 b3 => ?_⟩
    refine ⟨_, _, rfl, rfl, _, rfl, _, _, rfl, rfl, ⟨by decide, by decide⟩, _, rfl, _, _, rfl, rfl, (by omega), ?_⟩
    exact q _ H1 (Int.emod_nonneg _ (by omega)) (Int.emod_lt_of_pos _ (by omega)) dr1 k1
end
end Sb


namespace Sb
open PySem PySem.Spec
open PyProof.Rows L2
section
variable {P : Program} {w : World} {K : PySem.W.Frag} {mg : Str → Option Value} {base : Heap}

/-! ### heaps with the draws' state -/
theorem Dr.out {H : Hp} {d c l : Addr} {N : Nat} (h : Dr H d c l N) {p : Addr} (hp : H p = none) : p ≠ d ∧ p ≠ c ∧ p ≠ l := by
  obtain ⟨⟨n, _, h2⟩, ⟨cs, ls, h3, h4, _⟩, _⟩ := h
  exact ⟨fun z => (by rw [z, h2] at hp; cases hp), fun z => (by rw [z, h3] at hp; cases hp), fun z => (by rw [z, h4] at hp; cases hp)⟩
theorem Dr.put {H : Hp} {d c l : Addr} {N : Nat} (h : Dr H d c l N) {p : Addr} {o : HO} (n : p ≠ d ∧ p ≠ c ∧ p ≠ l) : Dr (upd H p o) d c l N := by
  obtain ⟨⟨m, h1, h2⟩, ⟨cs, ls, h3, h4, h5⟩, h6⟩ := h
  obtain ⟨n1, n2, n3⟩ := n
  exact ⟨⟨m, h1, by rw [upd_ne n1.symm]; exact h2⟩, ⟨cs, ls, by rw [upd_ne n2.symm]; exact h3, by rw [upd_ne n3.symm]; exact h4, h5⟩, h6⟩
theorem kpU {d l : Addr} {H H' : Hp} (g : Kp d l H H') {p : Addr} {o : HO} (h : H p = none) : Kp d l H (upd H' p o) := fun b u e n1 n2 => by
  have z : b ≠ p := fun z => by rw [z, h] at e; cases e
  rw [upd_ne z]
  exact g b u e n1 n2
/-- a tuple is kept -/
theorem Dr.tup {H H' : Hp} {d c l : Addr} {N : Nat} (h : Dr H d c l N) (g : Kp d l H H') {a : Addr} {xs : List V} (e : H a = some (.tup xs)) : H' a = some (.tup xs) := h.kt g a xs e
/-- an object that is not of the state is kept -/
theorem Kp.obj {d l : Addr} {H H' : Hp} (g : Kp d l H H') {a : Addr} {o : HO} (e : H a = some o) (n1 : a ≠ d) (n2 : a ≠ l) : H' a = some o := g a o e n1 n2
theorem natsE {xs : List Nat} {i : Nat} {x : V} (e : ((nats xs).map V.int)[i]? = some x) : ∃ r, xs[i]? = some r ∧ x = .int ((r : Nat) : Int) := by
  unfold nats at e
  rw [List.getElem?_map, List.getElem?_map] at e
  cases z : xs[i]? with
  | none => rw [z] at e; cases e
  | some r =>
    rw [z] at e
    exact ⟨r, rfl, (Option.some.inj e).symm⟩
theorem nats_len (xs : List Nat) : ((nats xs).map V.int).length = xs.length := by unfold nats; rw [List.length_map, List.length_map]
theorem take_snoc {α : Type} {xs : List α} {i : Nat} {x : α} (h : xs[i]? = some x) : xs.take (i + 1) = xs.take i ++ [x] := by
  rw [List.take_add_one, h] <;> rfl
theorem nats_app (a b : List Nat) : (nats (a ++ b)).map V.int = (nats a).map V.int ++ (nats b).map V.int := by
  unfold nats
  rw [List.map_append, List.map_append]

abbrev n_law_of : List Str := ["_law_state", "_law_some"]
theorem sc_law_of : FnScope n_law_of ["_law_state", "_law_some"] (defScope s_law_of) := ⟨rfl, rfl, rfl, by decide +kernel, rfl, by decide +kernel, by decide +kernel⟩
def spOf (K : PySem.W.Frag) : Sp := fun vs H Q _ => ∃ (d c l a : Addr) (N : Nat) (xs : List V), vs = [.ref d, .ref a] ∧ Dr H d c l N ∧ N < 500000000000000000 ∧ 0 < xs.length ∧ xs.length ≤ 100000 ∧ (∀ H', Kp d l H H' → SqL K H' a xs ∨ SqT K H' a xs) ∧
  ∀ (i : Nat) x H', xs[i]? = some x → Dr H' d c l (N + 1) → Kp d l H H' → Q x H'
theorem ok_law_of (T : Top K mg) : Ok P w K mg base 3 "_law_of" ["_law_state", "_law_some"] (spOf K) := by
  have G_law_draw := ok_law_draw (P := P) (w := w) (base := base) T
  refine mk (T.at_ (st := s_law_of) 35) sc_law_of (fun _ _ _ _ _ _ us hl => match us, hl with | [_, _], _ => rfl) (fun vs H Q E h => ?_) fun cdv A outer s H vs Q E hr h => ?_
  · obtain ⟨d, c, l, a, N, xs, rfl, _⟩ := h
    rfl
  obtain ⟨d, c, l, a, N, xs, rfl, hd, hN, h0, h5, hs, q⟩ := h
  refine ⟨_, pss_one (ps_ret (pIxS K (pv 1) (pc G_law_draw hr (pa_cons (pv 0) (pa_cons (pLen K T.len (pv 1)) pa_nil))))), ?_⟩
  refine ⟨_, rfl, _, rfl, _, rfl, a, xs, rfl, hs H (Kp.refl _ _ _), d, c, l, N, _, rfl, hd, hN, by omega, by omega, fun r H' r0 r1 d1 k1 => ?_⟩
  obtain ⟨j, rfl⟩ := Int.eq_ofNat_of_zero_le r0
  have hj : j < xs.length := Int.ofNat_lt.mp r1
  have e := List.getElem?_eq_getElem hj
  cases hs H' k1 with
  | inl z => exact .inl ⟨a, xs, _, _, rfl, rfl, z, atI_nat e, q j _ H' e d1 k1⟩
  | inr z => exact .inr (.inl ⟨a, xs, _, _, rfl, rfl, z, atI_nat e, q j _ H' e d1 k1⟩)

abbrev n_law_part : List Str := ["_law_state", "_law_some", "_law_one"]
theorem sc_law_part : FnScope n_law_part ["_law_state", "_law_some"] (defScope s_law_part) := ⟨rfl, rfl, rfl, by decide +kernel, rfl, by decide +kernel, by decide +kernel⟩
def spPart : Sp := fun vs H Q _ => ∃ (d c l a : Addr) (N : Nat) (xs : List Nat), vs = [.ref d, .ref a] ∧ Dr H d c l N ∧ N + xs.length < 500000000000000000 ∧ xs.length ≤ 256 ∧ H a = some (.tup ((nats xs).map V.int)) ∧
  ∀ ys p H', List.Sublist ys xs → Dr H' d c l (N + xs.length) → Kp d l H H' → H' p = some (.tup ((nats ys).map V.int)) → Q (.ref p) H'
theorem ok_law_part (T : Top K mg) : Ok P w K mg base 3 "_law_part" ["_law_state", "_law_some"] spPart := by
  have G_law_draw := ok_law_draw (P := P) (w := w) (base := base) T
  refine mk (T.at_ (st := s_law_part) 36) sc_law_part (fun _ _ _ _ _ _ us hl => match us, hl with | [_, _], _ => rfl) (fun vs H Q E h => ?_) fun cdv A outer s H vs Q E hr h => ?_
  · obtain ⟨d, c, l, a, N, xs, rfl, _⟩ := h
    rfl
  obtain ⟨d, c, l, a, N, xs, rfl, hd, hN, h256, ha, q⟩ := h
  refine ⟨_, pss_one (ps_ret (pTup K T.tuple (pe_lc (own := [("_law_one", 2)]) (g := gName 2) rfl sc_law_part.nd (pi_tup (pv 1)) (blkOk_by (N := n_law_part) (sc := defScope s_law_part) (by decide +kernel)) (fun _ _ _ _ _ => (pg_name (i := 2) sc_law_part.nd rfl (Or.inl rfl))) (fun _ _ _ _ _ => (pts_one (pt_cmpR op_eq (pc G_law_draw hr (pa_cons (pv 0) (pa_cons pe_int pa_nil))) pe_int (nomark _)))) (fun _ _ _ _ _ => (pv 2))))), ?_⟩
  have ln := nats_len xs
  refine ⟨_, rfl, a, rfl, ⟨_, SqT.of ha⟩, fun D hD => lc_tup (fun i H' => Dr H' d c l (N + i) ∧ Kp d l H H' ∧ ∃ ys, List.Sublist ys (xs.take i) ∧ H' D = some (.lst ((nats ys).map V.int)))
    ⟨hd.put (hd.out hD), kpU (Kp.refl _ _ _) hD, [], List.Sublist.refl _, upd_same⟩ (fun i H' _ h => SqT.of (hd.tup h.2.1 ha)) (fun i x H' e h => ?_) fun H' h => ?_⟩
  · obtain ⟨d1, k1, ys, sy, hy⟩ := h
    obtain ⟨r, er, rfl⟩ := natsE e
    have hi : i < xs.length := (List.getElem?_eq_some_iff.mp er).1
    refine ⟨rfl, ?_⟩
    refine ⟨_, rfl, d, c, l, N + i, 2, rfl, d1, by omega, by decide, by decide, fun b H2 b0 b1 d2 k2 => ?_⟩
    have hy2 : H2 D = some (.lst ((nats ys).map V.int)) := k2.obj hy (hd.out hD).1 (hd.out hD).2.2
    refine ⟨rfl, _, rfl, ite2 (fun hb => ?_) fun hb => ?_⟩
    · refine ⟨_, rfl, _, hy2, szl (by rw [nats_len]; have := sy.length_le; rw [List.length_take] at this; omega), d2.put (hd.out hD), kpU (k1.trans k2) hD, ys ++ [r], ?_, by rw [upd_same, nats_app] <;> rfl⟩
      rw [take_snoc er]
      exact sy.append (List.Sublist.refl _)
    · exact ⟨d2, k1.trans k2, ys, by rw [take_snoc er]; exact sy.trans (List.sublist_append_left _ _), hy2⟩
  · obtain ⟨d1, k1, ys, sy, hy⟩ := h
    rw [ln] at d1 sy
    rw [List.take_length] at sy
    exact ⟨D, _, rfl, .inl ⟨SqL.of hy, fun p hp => q ys p _ sy (d1.put (d1.out hp)) (k1.trans (kp (sNew hp))) upd_same⟩⟩

abbrev n_law_power : List Str := ["_law_count", "_law_found", "_law_step"]
theorem sc_law_power : FnScope n_law_power ["_law_count"] (defScope s_law_power) := ⟨rfl, rfl, rfl, by decide +kernel, rfl, by decide +kernel, by decide +kernel⟩
def spPow : Sp := fun vs H Q _ => ∃ n : Nat, vs = [.int (n : Int)] ∧ n ≤ 64 ∧ Q (.int ((2 ^ n : Nat) : Int)) H
theorem ok_law_power (T : Top K mg) : Ok P w K mg base 1 "_law_power" ["_law_count"] spPow := by
  refine mk (T.at_ (st := s_law_power) 37) sc_law_power (fun _ _ _ _ _ _ us hl => match us, hl with | [_], _ => rfl) (fun vs H Q E h => ?_) fun cdv A outer s H vs Q E hr h => ?_
  · obtain ⟨n, rfl, _⟩ := h
    rfl
  obtain ⟨n, rfl, h64, q⟩ := h
  refine ⟨_, pss_cons (ps_set (i := 1) sc_law_power.nd rfl (Or.inl rfl) pe_int)
    <| pss_cons (ps_for PassesOwn.never rfl (pi_range1 rfl T.range (pa_cons (pv 0) pa_nil)) (pg_name (i := 2) sc_law_power.nd rfl (Or.inl rfl)) (pss_one (ps_set (i := 1) sc_law_power.nd rfl (Or.inl rfl) (pe_op op_add (pv 1) (pv 1)))))
    <| pss_one (ps_ret (pv 1)), ?_⟩
  refine ⟨_, rfl, (n : Int), rfl, by omega, by omega, ?_⟩
  refine for_range (lo := 0) (n := n) (fun i σ H' => H' = H ∧ ∃ x, σ = [some (.int (n : Int)), some (.int ((2 ^ i : Nat) : Int)), x]) ⟨rfl, _, rfl⟩ (fun i σ H' hi h => ?_) fun σ H' h => ?_
  · obtain ⟨rfl, x, rfl⟩ := h
    refine ⟨_, rfl, _, rfl, _, _, rfl, rfl, rfl, some (.int ((0 : Int) + (i : Int))), ?_⟩
    have e : ((2 ^ i : Nat) : Int) + ((2 ^ i : Nat) : Int) = ((2 ^ (i + 1) : Nat) : Int) := by
      rw [Nat.pow_succ]
      omega
    rw [← e]
    rfl
  · obtain ⟨rfl, x, rfl⟩ := h
    exact ⟨_, rfl, q⟩

abbrev n_law_bits_of : List Str := ["_law_line", "_law_count", "_law_found", "_law_step"]
theorem sc_law_bits_of : FnScope n_law_bits_of ["_law_line", "_law_count"] (defScope s_law_bits_of) := ⟨rfl, rfl, rfl, by decide +kernel, rfl, by decide +kernel, by decide +kernel⟩
def bitsI (r n : Nat) : List Int := (List.range n).map fun j => ((r / 2 ^ j % 2 : Nat) : Int)
def spBits : Sp := fun vs H Q _ => ∃ r n : Nat, vs = [.int (r : Int), .int (n : Int)] ∧ n ≤ 64 ∧ ∀ a H', Same H H' → H' a = some (.lst ((bitsI r n).map V.int)) → Q (.ref a) H'
theorem ok_law_bits_of (T : Top K mg) : Ok P w K mg base 1 "_law_bits_of" ["_law_line", "_law_count"] spBits := by
  refine mk (T.at_ (st := s_law_bits_of) 38) sc_law_bits_of (fun _ _ _ _ _ _ us hl => match us, hl with | [_, _], _ => rfl) (fun vs H Q E h => ?_) fun cdv A outer s H vs Q E hr h => ?_
  · obtain ⟨r, n, rfl, _⟩ := h
    rfl
  obtain ⟨r, n, rfl, h64, q⟩ := h
  refine ⟨_, pss_cons (ps_set (i := 2) sc_law_bits_of.nd rfl (Or.inl rfl) (pe_lst pa_nil))
    <| pss_cons (ps_for PassesOwn.never rfl (pi_range1 rfl T.range (pa_cons (pv 1) pa_nil)) (pg_name (i := 3) sc_law_bits_of.nd rfl (Or.inl rfl)) (pss_cons (ps_expr (pe_bm PySem.F.plainAttrs_list PySem.F.slot_list_append PySem.F.type_list_append mt_append (pv 2) (pa_cons (pe_op op_mod (pv 0) pe_int) pa_nil))) (pss_one (ps_set (i := 0) sc_law_bits_of.nd rfl (Or.inl rfl) (pe_op op_fdiv (pv 0) pe_int)))))
    <| pss_one (ps_ret (pv 2)), ?_⟩
  refine ⟨sz (by show 0 ≤ 100000; decide), fun l hl => ?_⟩
  refine ⟨_, rfl, (n : Int), rfl, by omega, by omega, ?_⟩
  refine for_range (lo := 0) (n := n) (fun i σ H' => Same H H' ∧ H' l = some (.lst ((bitsI r i).map V.int)) ∧ ∃ x, σ = [some (.int ((r / 2 ^ i : Nat) : Int)), some (.int (n : Int)), some (.ref l), x])
    ⟨sNew hl, upd_same, _, by rw [Nat.pow_zero, Nat.div_one] <;> rfl⟩ (fun i σ H' hi h => ?_) fun σ H' h => ?_
  · obtain ⟨g, kl, x, rfl⟩ := h
    refine ⟨_, rfl, .inl ⟨rfl, _, SqL.of kl⟩, _, rfl, _, _, rfl, rfl, (by show (0 : Int) < 2; decide), ?_⟩
    refine ⟨l, _, _, rfl, rfl, kl, szl (by unfold bitsI; simp; omega), ?_⟩
    refine ⟨_, rfl, _, _, rfl, rfl, ⟨by decide, by decide⟩, ?_⟩
    have e2 : ((r / 2 ^ i : Nat) : Int) / 2 = ((r / 2 ^ (i + 1) : Nat) : Int) := by
      rw [Nat.pow_succ, ← Nat.div_div_eq_div_mul]
      simp
    refine ⟨sUp g hl, ?_, _, by rw [← e2] <;> rfl⟩
    rw [upd_same]
    unfold bitsI
    rw [rg_succ, List.map_append]
    rfl
  · obtain ⟨g, kl, x, rfl⟩ := h
    exact ⟨_, rfl, q l H' g kl⟩

abbrev n_law_all_signs : List Str := ["_law_count", "_law_found", "_law_place"]
theorem sc_law_all_signs : FnScope n_law_all_signs ["_law_count"] (defScope s_law_all_signs) := ⟨rfl, rfl, rfl, by decide +kernel, rfl, by decide +kernel, by decide +kernel⟩
theorem ok_law_all_signs (T : Top K mg) : Ok P w K mg base 1 "_law_all_signs" ["_law_count"] spSigns := by
  refine mk (T.at_ (st := s_law_all_signs) 39) sc_law_all_signs (fun _ _ _ _ _ _ us hl => match us, hl with | [_], _ => rfl) (fun vs H Q E h => ?_) fun cdv A outer s H vs Q E hr h => ?_
  · obtain ⟨n, rfl, _⟩ := h
    rfl
  obtain ⟨n, rfl, h8, q⟩ := h
  refine ⟨_, pss_cons (ps_set (i := 1) sc_law_all_signs.nd rfl (Or.inl rfl) (pe_lst pa_nil))
    <| pss_cons (ps_for PassesOwn.never rfl (pi_range1 rfl T.range (pa_cons (pv 0) pa_nil)) (pg_name (i := 2) sc_law_all_signs.nd rfl (Or.inl rfl)) (pss_one (ps_set (i := 1) sc_law_all_signs.nd rfl (Or.inl rfl) (pe_op op_cat (pv 1) (pe_lst (pa_cons (pe_tup (pa_cons (pv 2) (pa_cons pe_int pa_nil))) (pa_cons (pe_tup (pa_cons (pv 2) (pa_cons pe_int pa_nil))) pa_nil)))))))
    <| pss_one (ps_ret (pTup K T.tuple (pv 1))), ?_⟩
  refine ⟨sz (by show 0 ≤ 100000; decide), fun l0 hl => ?_⟩
  refine ⟨_, rfl, (n : Int), rfl, by omega, by omega, ?_⟩
  refine for_range (lo := 0) (n := n) (fun i σ H' => Same H H' ∧ ∃ l xs x, H' l = some (.lst xs) ∧ TpAll H' xs ((sgs i).map fun p => dS p.1 p.2) ∧ σ = [some (.int (n : Int)), some (.ref l), x])
    ⟨sNew hl, l0, [], _, upd_same, .nil, rfl⟩ (fun i σ H' hi h => ?_) fun σ H' h => ?_
  · obtain ⟨g, l, xs, x, kl, hxs, rfl⟩ := h
    have e0 : (0 : Int) + (i : Int) = ((i : Nat) : Int) := Int.zero_add _
    rw [e0]
    refine ⟨_, rfl, _, rfl, sz (by show 2 ≤ 100000; decide), fun p1 hp1 => ⟨_, rfl, sz (by show 2 ≤ 100000; decide), fun p2 hp2 => ⟨sz (by show 2 ≤ 100000; decide), fun p3 hp3 => ?_⟩⟩⟩
    have g1 := (sNew (o := .tup [.int (i : Int), .int 0]) hp1).trans ((sNew (o := .tup [.int (i : Int), .int 1]) hp2).trans (sNew (o := .lst [.ref p1, .ref p2]) hp3))
    have k1 : (upd (upd (upd H' p1 (.tup [.int (i : Int), .int 0])) p2 (.tup [.int (i : Int), .int 1])) p3 (.lst [.ref p1, .ref p2])) p1 = some (.tup [.int (i : Int), .int 0]) := sNew hp3 _ _ (sNew hp2 _ _ upd_same)
    have k2 : (upd (upd (upd H' p1 (.tup [.int (i : Int), .int 0])) p2 (.tup [.int (i : Int), .int 1])) p3 (.lst [.ref p1, .ref p2])) p2 = some (.tup [.int (i : Int), .int 1]) := sNew hp3 _ _ upd_same
    have k3 : (upd (upd (upd H' p1 (.tup [.int (i : Int), .int 0])) p2 (.tup [.int (i : Int), .int 1])) p3 (.lst [.ref p1, .ref p2])) p3 = some (.lst [.ref p1, .ref p2]) := upd_same
    have kl2 := g1 _ _ kl
    generalize upd (upd (upd H' p1 (.tup [.int (i : Int), .int 0])) p2 (.tup [.int (i : Int), .int 1])) p3 (.lst [.ref p1, .ref p2]) = H2 at g1 k1 k2 k3 kl2
    have lx := dSs_length hxs
    refine ⟨l, p3, xs, _, rfl, rfl, kl2, k3, sz (by show xs.length + 2 ≤ 100000; omega), fun p4 hp4 => ⟨g.trans (g1.trans (sNew hp4)), p4, _, _, upd_same, ?_, rfl⟩⟩
    have s4 := sNew (o := .lst (xs ++ [.ref p1, .ref p2])) hp4
    rw [sgs_succ, List.map_append]
    refine TpAll.app (tpsS (g1.trans s4) hxs) (.cons ?_ (.cons ?_ .nil))
    · exact .tup (s4 _ _ k1) (.cons (.int _) (.cons (.int _) .nil))
    · exact .tup (s4 _ _ k2) (.cons (.int _) (.cons (.int _) .nil))
  · obtain ⟨g, l, xs, x, kl, hxs, rfl⟩ := h
    refine ⟨_, rfl, l, _, rfl, .inl ⟨SqL.of kl, fun r hr => ?_⟩⟩
    exact q _ _ (g.trans (sNew hr)) (.tup upd_same (tpsS (sNew hr) hxs))

abbrev n_law_is_so : List Str := ["_law_one", "_law_line"]
theorem sc_law_is_so : FnScope n_law_is_so ["_law_one", "_law_line"] (defScope s_law_is_so) := ⟨rfl, rfl, rfl, by decide +kernel, rfl, by decide +kernel, by decide +kernel⟩
def spIsS : Sp := fun vs H Q _ => ∃ (i r : Nat) (b : Bool) (v : V), vs = [v, .int (r : Int)] ∧ Tp H v (dS i b) ∧ i < 8 ∧ ∀ H', Same H H' → Q (.bl (decide (bit r i = b))) H'
theorem ok_law_is_so (T : Top K mg) : Ok P w K mg base 2 "_law_is_so" ["_law_one", "_law_line"] spIsS := by
  have G_law_bits_of := ok_law_bits_of (P := P) (w := w) (base := base) T
  refine mk (T.at_ (st := s_law_is_so) 40) sc_law_is_so (fun _ _ _ _ _ _ us hl => match us, hl with | [_, _], _ => rfl) (fun vs H Q E h => ?_) fun cdv A outer s H vs Q E hr h => ?_
  · obtain ⟨i, r, b, v, rfl, _⟩ := h
    rfl
  obtain ⟨i, r, b, v, rfl, hv, hi, q⟩ := h
  have hv' : Tp H v (dF (.sg i b)) := hv
  obtain ⟨a, rfl, ha⟩ := hv'.sgE
  refine ⟨_, pss_one (ps_ret (pe_cmpR op_eq (pIxL K (pc G_law_bits_of hr (pa_cons (pv 1) (pa_cons pe_int pa_nil))) (pIx K (pv 0) pe_int)) (pIx K (pv 0) pe_int) (nomark _))), ?_⟩
  refine ⟨_, rfl, r, 8, rfl, by decide, fun p H1 g1 k1 => ?_⟩
  have e : ((bitsI r 8).map V.int)[i]? = some (.int ((r / 2 ^ i % 2 : Nat) : Int)) := by
    unfold bitsI
    rw [List.getElem?_map, List.getElem?_map, List.getElem?_range hi]
    rfl
  refine ⟨_, rfl, a, _, _, _, rfl, rfl, SqT.of (g1 _ _ ha), rfl, p, _, _, _, rfl, rfl, SqL.of k1, atI_nat e, _, rfl, a, _, _, _, rfl, rfl, SqT.of (g1 _ _ ha), rfl, rfl, ?_⟩
  show Q (.bl (decide (V.int ((r / 2 ^ i % 2 : Nat) : Int) = V.int (b2n b : Int)))) H1
  rw [bitI]
  exact q H1 g1
end
end Sb


namespace Sb
open PySem PySem.Spec
open PyProof.Rows L2
section
variable {P : Program} {w : World} {K : PySem.W.Frag} {mg : Str → Option Value} {base : Heap}

/-! ### lists of ones -/
theorem eqv_nil (ns : List Int) : PyData.eqv (.list (ns.map PyData.int)) (.list []) = ns.isEmpty := by
  cases ns with
  | nil => simp [PyData.eqv, PyData.eqvAll]
  | cons n r => simp [PyData.eqv, PyData.eqvAll]
/-- the sign parts the rows -/
def pard (i : Nat) (b : Bool) (near far : List Nat) : Bool := near.all (fun r => decide (bit r i = b)) && !(far.any fun r => decide (bit r i = b))
theorem filter_empty {α : Type} {p : α → Bool} : ∀ {xs : List α}, (xs.filter p).isEmpty = !xs.any p
  | [] => rfl
  | x :: r => by
    rw [List.filter_cons, List.any_cons]
    cases p x with
    | true => rfl
    | false =>
      rw [if_neg Bool.false_ne_true, filter_empty]
      rfl
theorem ones_snoc {α : Type} {p : α → Bool} {xs : List α} {x : α} (h : p x = true) : (((xs ++ [x]).filter p).map fun _ => (1 : Int)) = ((xs.filter p).map fun _ => (1 : Int)) ++ [1] := by
  rw [List.filter_append, List.filter_cons, if_pos h, List.map_append]
  rfl
theorem ones_same {α : Type} {p : α → Bool} {xs : List α} {x : α} (h : p x = false) : (((xs ++ [x]).filter p).map fun _ => (1 : Int)) = ((xs.filter p).map fun _ => (1 : Int)) := by
  rw [List.filter_append, List.filter_cons, h, if_neg Bool.false_ne_true, List.filter_nil, List.append_nil]
theorem ones_len {α : Type} {p : α → Bool} {xs : List α} : (((xs.filter p).map fun _ => (1 : Int)).map V.int).length ≤ xs.length := by
  rw [List.length_map, List.length_map]
  exact List.length_filter_le _ _

abbrev n_law_parted : List Str := ["_law_one", "_law_near", "_law_far", "_law_line"]
theorem sc_law_parted : FnScope n_law_parted ["_law_one", "_law_near", "_law_far"] (defScope s_law_parted) := ⟨rfl, rfl, rfl, by decide +kernel, rfl, by decide +kernel, by decide +kernel⟩
def spPard : Sp := fun vs H Q _ => ∃ (i : Nat) (b : Bool) (v : V) (a c : Addr) (near far : List Nat), vs = [v, .ref a, .ref c] ∧ Tp H v (dS i b) ∧ i < 8 ∧ H a = some (.tup ((nats near).map V.int)) ∧ H c = some (.tup ((nats far).map V.int)) ∧ far.length ≤ 256 ∧
  ∀ H', Same H H' → Q (.bl (pard i b near far)) H'
theorem ok_law_parted (T : Top K mg) : Ok P w K mg base 3 "_law_parted" ["_law_one", "_law_near", "_law_far"] spPard := by
  have G_law_is_so := ok_law_is_so (P := P) (w := w) (base := base) T
  refine mk (T.at_ (st := s_law_parted) 41) sc_law_parted (fun _ _ _ _ _ _ us hl => match us, hl with | [_, _, _], _ => rfl) (fun vs H Q E h => ?_) fun cdv A outer s H vs Q E hr h => ?_
  · obtain ⟨i, b, v, a, c, near, far, rfl, _⟩ := h
    rfl
  obtain ⟨i, b, v, a, c, near, far, rfl, hv, hi8, ha, hc, f256, q⟩ := h
  refine ⟨_, pss_cons (ps_for PassesOwn.never rfl (pi_tup (pv 1)) (pg_name (i := 3) sc_law_parted.nd rfl (Or.inl rfl)) (pss_one (ps_if (pt_not (pt_val (pc G_law_is_so hr (pa_cons (pv 0) (pa_cons (pv 3) pa_nil))))) (pss_one (ps_ret pe_bl)) pss_nil)))
    <| pss_one (ps_ret (pe_cmpR (opEd K hr) (pe_lc (own := [("_law_line", 3)]) (g := gName 3) rfl sc_law_parted.nd (pi_tup (pv 2)) (blkOk_by (N := n_law_parted) (sc := defScope s_law_parted) (by decide +kernel)) (fun _ _ _ _ _ => (pg_name (i := 3) sc_law_parted.nd rfl (Or.inl rfl))) (fun _ _ _ _ _ => (pts_one (pt_val (pc G_law_is_so hr (pa_cons (pv 0) (pa_cons (pv 3) pa_nil)))))) (fun _ _ _ _ _ => pe_int)) (pe_lst pa_nil) (nomark _))), ?_⟩
  have lnear := nats_len near
  have lfar := nats_len far
  refine ⟨_, rfl, a, rfl, ⟨_, SqT.of ha⟩, for_tup (fun j σ H' => Same H H' ∧ (near.take j).all (fun r => decide (bit r i = b)) = true ∧ ∃ x, σ = [some v, some (.ref a), some (.ref c), x]) ⟨Same.refl H, rfl, _, rfl⟩ (fun j σ H' _ h => SqT.of (h.1 _ _ ha)) (fun j x σ H' e h => ?_) fun σ H' h => ?_⟩
  · obtain ⟨g, al, x0, rfl⟩ := h
    obtain ⟨r, er, rfl⟩ := natsE e
    refine ⟨_, rfl, _, rfl, i, r, b, v, rfl, tpS g hv, hi8, fun H2 g2 => ⟨_, rfl, ?_⟩⟩
    cases z : decide (bit r i = b) with
    | true =>
      refine iteF ⟨g.trans g2, ?_, _, rfl⟩
      rw [take_snoc er, List.all_append, al]
      simp only [List.all_cons, z, List.all_nil, Bool.and_self]
    | false =>
      refine iteT ?_
      have e2 : pard i b near far = false := by
        unfold pard
        have e3 : near.all (fun r => decide (bit r i = b)) = false := by
          rw [List.all_eq_false]
          exact ⟨r, List.mem_of_getElem? er, by rw [z]; exact Bool.false_ne_true⟩
        rw [e3]
        rfl
      rw [e2] at q
      exact q _ (g.trans g2)
  · obtain ⟨g, al, x0, rfl⟩ := h
    rw [lnear, List.take_length] at al
    refine ⟨_, rfl, c, rfl, ⟨_, SqT.of (g _ _ hc)⟩, fun D hD => lc_tup (fun j H2 => Same H H2 ∧ H2 D = some (.lst ((((far.take j).filter fun r => decide (bit r i = b)).map fun _ => (1 : Int)).map V.int))) ⟨g.trans (sNew hD), upd_same⟩ (fun j H2 _ h => SqT.of (h.1 _ _ hc)) (fun j x H2 e h => ?_) fun H2 h => ?_⟩
    · obtain ⟨g2, kD⟩ := h
      obtain ⟨r, er, rfl⟩ := natsE e
      have hj : j < far.length := (List.getElem?_eq_some_iff.mp er).1
      refine ⟨rfl, _, rfl, _, rfl, i, r, b, v, rfl, tpS g2 hv, hi8, fun H3 g3 => ⟨_, rfl, ?_⟩⟩
      have kD3 := g3 _ _ kD
      cases z : decide (bit r i = b) with
      | true =>
        refine iteT ⟨_, kD3, szl (Nat.le_trans ones_len (by rw [List.length_take]; omega)), sUp (g2.trans g3) (g.free hD), ?_⟩
        rw [upd_same, take_snoc er, ones_snoc (p := fun r => decide (bit r i = b)) z, List.map_append]
        rfl
      | false =>
        refine iteF ⟨g2.trans g3, ?_⟩
        rw [take_snoc er, ones_same (p := fun r => decide (bit r i = b)) z]
        exact kD3
    · obtain ⟨g2, kD⟩ := h
      rw [lfar, List.take_length] at kD
      refine ⟨sz (by show 0 ≤ 100000; decide), fun p hp => ?_⟩
      refine ⟨_, .list [], .lst (SqL.of ((sNew hp) _ _ kD)) (dpInts _), .lst (SqL.of upd_same) .nil, intsL_shaped _, intsL_shaped [], ?_⟩
      rw [eqv_nil]
      have e3 : (((far.filter fun r => decide (bit r i = b)).map fun _ => (1 : Int)).isEmpty) = pard i b near far := by
        unfold pard
        rw [al, ← filter_empty]
        cases (far.filter fun r => decide (bit r i = b)) <;> rfl
      rw [e3]
      exact q _ (g2.trans (sNew hp))

abbrev n_law_first_sign : List Str := ["_law_asked_so", "_law_near", "_law_far", "_law_one"]
theorem sc_law_first_sign : FnScope n_law_first_sign ["_law_asked_so", "_law_near", "_law_far"] (defScope s_law_first_sign) := ⟨rfl, rfl, rfl, by decide +kernel, rfl, by decide +kernel, by decide +kernel⟩
def spFirst : Sp := fun vs H Q _ => ∃ (n : Nat) (ys ns near far : List Int) (n1 f1 : List Nat) (v : V) (a c : Addr), vs = [v, .ref a, .ref c] ∧ n ≤ 8 ∧ Tp H v (dQ n ys ns) ∧ H a = some (.tup ((nats n1).map V.int)) ∧ H c = some (.tup ((nats f1).map V.int)) ∧ f1.length ≤ 256 ∧
  (∀ H', Same H H' → (∀ i b, i < n → pard i b n1 f1 = false) → Q .non H') ∧ ∀ i b v H', Same H H' → i < n → Tp H' v (dS i b) → pard i b n1 f1 = true → Q v H'
theorem ok_law_first_sign (T : Top K mg) : Ok P w K mg base 4 "_law_first_sign" ["_law_asked_so", "_law_near", "_law_far"] spFirst := by
  have G_law_parted := ok_law_parted (P := P) (w := w) (base := base) T
  refine mk (T.at_ (st := s_law_first_sign) 42) sc_law_first_sign (fun _ _ _ _ _ _ us hl => match us, hl with | [_, _, _], _ => rfl) (fun vs H Q E h => ?_) fun cdv A outer s H vs Q E hr h => ?_
  · obtain ⟨n, ys, ns, _, _, near, far, v, a, c, rfl, _⟩ := h
    rfl
  obtain ⟨n, ys, ns, _, _, near, far, v, a, c, rfl, hn, hv, ha, hc, f256, qN, q⟩ := h
  obtain ⟨qa, q1, q2, q3, q4, rfl, hqa, t1, t2, t3, t4⟩ := hv.four
  obtain ⟨sa, xs, rfl, hsa, hxs⟩ := Tp.tupE t2
  have lx := dSs_length hxs
  refine ⟨_, pss_cons (ps_for PassesOwn.never rfl (pi_tup (pIx K (pv 0) pe_int)) (pg_name (i := 3) sc_law_first_sign.nd rfl (Or.inl rfl)) (pss_one (ps_if (pt_val (pc G_law_parted hr (pa_cons (pv 3) (pa_cons (pv 1) (pa_cons (pv 2) pa_nil))))) (pss_one (ps_ret (pv 3))) pss_nil)))
    <| pss_one (ps_ret pe_non), ?_⟩
  refine ⟨_, rfl, qa, _, _, _, rfl, rfl, SqT.of hqa, rfl, sa, rfl, ⟨_, SqT.of hsa⟩, for_tup (fun j σ H' => Same H H' ∧ (∀ k, k < j → pard (k / 2) (decide (k % 2 = 1)) near far = false) ∧ ∃ x, σ = [some (.ref qa), some (.ref a), some (.ref c), x])
    ⟨Same.refl H, fun k hk => absurd hk (Nat.not_lt_zero k), _, rfl⟩ (fun j σ H' _ h => SqT.of (h.1 _ _ hsa)) (fun j x σ H' e h => ?_) fun σ H' h => ?_⟩
  · obtain ⟨g, no, x0, rfl⟩ := h
    have hj : j < xs.length := (List.getElem?_eq_some_iff.mp e).1
    obtain ⟨y, e3, h2⟩ := dSs_at hxs (k := j) (by omega)
    obtain rfl : x = y := Option.some.inj (e.symm.trans e3)
    refine ⟨_, rfl, _, rfl, _, rfl, j / 2, decide (j % 2 = 1), x, a, c, near, far, rfl, tpS g h2, by omega, g _ _ ha, g _ _ hc, f256, fun H2 g2 => ⟨_, rfl, ?_⟩⟩
    cases z : pard (j / 2) (decide (j % 2 = 1)) near far with
    | true => exact iteT ⟨_, rfl, q _ _ x _ (g.trans g2) (by omega) (tpS (g.trans g2) h2) z⟩
    | false =>
      refine iteF ⟨g.trans g2, fun k hk => ?_, _, rfl⟩
      by_cases ek : k = j
      · rw [ek]
        exact z
      · exact no k (by omega)
  · obtain ⟨g, no, x0, rfl⟩ := h
    refine qN H' g fun i b hi => ?_
    have z := no (2 * i + b2n b) (by have := b2n_le b; omega)
    have e1 : (2 * i + b2n b) / 2 = i := by have := b2n_le b; omega
    have e2 : decide ((2 * i + b2n b) % 2 = 1) = b := by
      cases b
      · exact decide_eq_false (by show ¬ (2 * i + 0) % 2 = 1; omega)
      · exact decide_eq_true (by show (2 * i + 1) % 2 = 1; omega)
    rw [e1, e2] at z
    exact z

abbrev n_law_worths : List Str := ["_law_state", "_law_count", "_law_line"]
theorem sc_law_worths : FnScope n_law_worths ["_law_state", "_law_count"] (defScope s_law_worths) := ⟨rfl, rfl, rfl, by decide +kernel, rfl, by decide +kernel, by decide +kernel⟩
def spWths : Sp := fun vs H Q _ => ∃ (d c l : Addr) (N n : Nat), vs = [.ref d, .int (n : Int)] ∧ n ≤ 8 ∧ Dr H d c l N ∧ N + 2 ^ n < 500000000000000000 ∧ ∀ A p H', A.length = 2 ^ n → Dr H' d c l (N + 2 ^ n) → Kp d l H H' → H' p = some (.tup ((zo A).map V.int)) → Q (.ref p) H'
theorem ok_law_worths (T : Top K mg) : Ok P w K mg base 3 "_law_worths" ["_law_state", "_law_count"] spWths := by
  have G_law_draw := ok_law_draw (P := P) (w := w) (base := base) T
  have G_law_power := ok_law_power (P := P) (w := w) (base := base) T
  refine mk (T.at_ (st := s_law_worths) 43) sc_law_worths (fun _ _ _ _ _ _ us hl => match us, hl with | [_, _], _ => rfl) (fun vs H Q E h => ?_) fun cdv A outer s H vs Q E hr h => ?_
  · obtain ⟨d, c, l, N, n, rfl, _⟩ := h
    rfl
  obtain ⟨d, c, l, N, n, rfl, h8, hd, hN, q⟩ := h
  have pw8 : 2 ^ n ≤ 256 := Nat.le_trans (Nat.pow_le_pow_right (by decide) h8) (by decide)
  refine ⟨_, pss_one (ps_ret (pTup K T.tuple (pe_lc (own := [("_law_line", 2)]) (g := gName 2) rfl sc_law_worths.nd (pi_range1 rfl T.range (pa_cons (pc G_law_power hr (pa_cons (pv 1) pa_nil)) pa_nil)) (blkOk_by (N := n_law_worths) (sc := defScope s_law_worths) (by decide +kernel)) (fun _ _ _ _ _ => (pg_name (i := 2) sc_law_worths.nd rfl (Or.inl rfl))) (fun _ _ _ _ _ => pts_nil) (fun _ _ _ _ _ => (pc G_law_draw hr (pa_cons (pv 0) (pa_cons pe_int pa_nil))))))), ?_⟩
  refine ⟨_, rfl, n, rfl, by omega, ((2 ^ n : Nat) : Int), rfl, Int.natCast_nonneg _, by omega, fun D hD => ?_⟩
  refine lc_range (lo := 0) (n := 2 ^ n) (fun i H' => Dr H' d c l (N + i) ∧ Kp d l H H' ∧ ∃ B : List Bool, B.length = i ∧ H' D = some (.lst ((zo B).map V.int)))
    ⟨hd.put (hd.out hD), kpU (Kp.refl _ _ _) hD, [], rfl, upd_same⟩ (fun i H' hi h => ?_) fun H' h => ?_
  · obtain ⟨d1, k1, B, hB, hy⟩ := h
    refine ⟨rfl, yes ?_⟩
    refine ⟨_, rfl, d, c, l, N + i, 2, rfl, d1, by omega, by decide, by decide, fun b H2 b0 b1 d2 k2 => ?_⟩
    have hy2 := k2.obj hy (hd.out hD).1 (hd.out hD).2.2
    refine ⟨_, hy2, szl (by rw [zo_len]; omega), d2.put (hd.out hD), kpU (k1.trans k2) hD, B ++ [decide (b = 1)], by rw [List.length_append, hB] <;> rfl, ?_⟩
    have eb : (b2n (decide (b = 1)) : Int) = b := by
      by_cases z : b = 1
      · rw [decide_eq_true z, z]
        rfl
      · rw [decide_eq_false z]
        show (0 : Int) = b
        omega
    rw [upd_same]
    unfold zo
    rw [List.map_append, List.map_append]
    show some (HO.lst (_ ++ [V.int b])) = some (HO.lst (_ ++ [V.int (b2n (decide (b = 1)) : Int)]))
    rw [eb]
  · obtain ⟨d1, k1, B, hB, hy⟩ := h
    exact ⟨D, _, rfl, .inl ⟨SqL.of hy, fun p hp => q B p _ hB (d1.put (d1.out hp)) (k1.trans (kp (sNew hp))) upd_same⟩⟩

abbrev n_law_made : List Str := ["_law_state", "_law_some", "_law_deep"]
theorem sc_law_made : FnScope n_law_made ["_law_state", "_law_some", "_law_deep"] (defScope s_law_made) := ⟨rfl, rfl, rfl, by decide +kernel, rfl, by decide +kernel, by decide +kernel⟩
def mc : Nat → Nat
  | 0 => 2
  | k + 1 => 2 + 2 * mc k
def spMade (k : Nat) : Sp := fun vs H Q _ => ∃ (d c l : Addr) (N n j : Nat) (v : V), vs = [.ref d, v, .int (j : Int)] ∧ j < k ∧ Dr H d c l N ∧ N + mc j < 500000000000000000 ∧ 1 ≤ n ∧ n ≤ 8 ∧ Tp H v (dSs (sgs n)) ∧
  ∀ f r H', Fm.ok n f → f.dep ≤ j → Dr H' d c l (N + mc j) → Kp d l H H' → Tp H' r (dF f) → Q r H'
theorem sgs_pick {H : Hp} {n i : Nat} {xs : List V} {x : V} (hxs : TpAll H xs ((sgs n).map fun p => dS p.1 p.2)) (e : xs[i]? = some x) : i / 2 < n ∧ Tp H x (dF (.sg (i / 2) (decide (i % 2 = 1)))) := by
  have hj : i < xs.length := (List.getElem?_eq_some_iff.mp e).1
  have lx := dSs_length hxs
  obtain ⟨y, e3, h2⟩ := dSs_at hxs (k := i) (by omega)
  obtain rfl : x = y := Option.some.inj (e.symm.trans e3)
  exact ⟨by omega, h2⟩
theorem ok_law_made (T : Top K mg) : ∀ k : Nat, Ok P w K mg base (k + 3) "_law_made" ["_law_state", "_law_some", "_law_deep"] (spMade k)
  | 0 => (Ok.never (T.at_ (st := s_law_made) 44) (fun _ _ _ _ _ _ us hl => match us, hl with | [_, _, _], _ => rfl) (fun vs H Q E h => by
      obtain ⟨d, c, l, N, n, j, v, _, h, _⟩ := h
      exact absurd h (Nat.not_lt_zero _))).mono (Nat.zero_le _)
  | k + 1 => by
    have G_law_made := ok_law_made T k
    have G_law_draw := ok_law_draw (P := P) (w := w) (base := base) T
    have G_law_of := ok_law_of (P := P) (w := w) (base := base) T
    refine mk (T.at_ (st := s_law_made) 44) sc_law_made (fun _ _ _ _ _ _ us hl => match us, hl with | [_, _, _], _ => rfl) (fun vs H Q E h => ?_) fun cdv A outer s H vs Q E hr h => ?_
    · obtain ⟨d, c, l, N, n, j, v, rfl, _⟩ := h
      rfl
    obtain ⟨d, c, l, N, n, j, v, rfl, hj, hd, hN, n1, n8, hv, q⟩ := h
    obtain ⟨sa, xs, rfl, hsa, hxs⟩ := Tp.tupE hv
    have lx := dSs_length hxs
    have mcj : 2 ≤ mc j := by
      cases j
      · exact Nat.le_refl 2
      · show 2 ≤ 2 + 2 * mc _
        omega
    refine ⟨_, pss_cons (ps_if (PW.pt (pw_or (pt_cmpR op_eq (pv 2) pe_int (nomark _)) (pw_or1 (pt_cmpR op_eq (pc G_law_draw hr (pa_cons (pv 0) (pa_cons pe_int pa_nil))) pe_int (nomark _))))) (pss_one (ps_ret (pc G_law_of hr (pa_cons (pv 0) (pa_cons (pv 1) pa_nil))))) pss_nil)
    <| pss_one (ps_ret (pe_tup (pa_cons (pc G_law_of hr (pa_cons (pv 0) (pa_cons (pe_lst (pa_cons pe_str (pa_cons pe_str pa_nil))) pa_nil))) (pa_cons (pc G_law_made hr (pa_cons (pv 0) (pa_cons (pv 1) (pa_cons (pe_op op_sub (pv 2) pe_int) pa_nil)))) (pa_cons (pc G_law_made hr (pa_cons (pv 0) (pa_cons (pv 1) (pa_cons (pe_op op_sub (pv 2) pe_int) pa_nil)))) pa_nil))))), ?_⟩
    -- a sign is picked
    have pick : ∀ H1 M, Dr H1 d c l M → Kp d l H H1 → M ≤ N + 1 → (tCall (spOf K) [] E0 (tCons (tVar 0) (tCons (tVar 1) tNil))) [some (.ref d), some (.ref sa), some (.int (j : Int))] H1 Q := by
      intro H1 M d1 k1 hM
      refine ⟨_, rfl, _, rfl, d, c, l, sa, M, xs, rfl, d1, by omega, by omega, by omega, fun H' k2 => .inr (SqT.of (hd.tup (k1.trans k2) hsa)), fun i x H' e d2 k2 => ?_⟩
      obtain ⟨h1, h2⟩ := sgs_pick hxs e
      exact q (.sg (i / 2) (decide (i % 2 = 1))) x H' h1 (Nat.zero_le _) (d2.more (by omega)) (k1.trans k2) (tp (hd.kt (k1.trans k2)) h2)
    refine ⟨_, rfl, rfl, _, rfl, ?_⟩
    cases j with
    | zero => exact iteT (iteT (pick H N hd (Kp.refl _ _ _) (by omega)))
    | succ j =>
      have hmc : mc (j + 1) = 2 + 2 * mc j := rfl
      refine iteF ⟨_, rfl, d, c, l, N, 4, rfl, hd, by omega, by decide, by decide, fun b H1 b0 b1 d1 k1 => ?_⟩
      refine ⟨rfl, _, rfl, ite2 (fun hb => ?_) fun hb => ?_⟩
      · exact pick H1 _ d1 k1 (by omega)
      refine ⟨_, rfl, sz (by show 2 ≤ 100000; decide), fun p hp => ?_⟩
      have pne := d1.out hp
      refine ⟨d, c, l, p, N + 1, [.str "or", .str "and"], rfl, d1.put pne, by omega, by decide, by decide, fun H' k2 => .inl (SqL.of (k2.obj upd_same pne.1 pne.2.2)), fun i x H2 e d2 k2 => ?_⟩
      obtain ⟨o, rfl⟩ : ∃ o, x = .str (wd o) := by
        match i, e with
        | 0, e => exact ⟨true, (Option.some.inj e).symm⟩
        | 1, e => exact ⟨false, (Option.some.inj e).symm⟩
        | i + 2, e => simp at e
      have k12 : Kp d l H H2 := fun b o e n1 n2 => k2 b o (sNew hp b o (k1 b o e n1 n2)) n1 n2
      have ej : ((j + 1 : Nat) : Int) - 1 = ((j : Nat) : Int) := by omega
      refine ⟨_, rfl, _, rfl, _, rfl, _, _, rfl, rfl, d, c, l, N + 2, n, j, .ref sa, by rw [← ej] <;> rfl, by omega, d2, by omega, n1, n8, tp (hd.kt k12) hv, fun f1 r1 H3 o1 e1 d3 k3 t3 => ?_⟩
      refine ⟨_, rfl, _, rfl, _, rfl, _, _, rfl, rfl, d, c, l, N + 2 + mc j, n, j, .ref sa, by rw [← ej] <;> rfl, by omega, d3, by omega, n1, n8, tp (hd.kt (k12.trans k3)) hv, fun f2 r2 H4 o2 e2 d4 k4 t4 => ?_⟩
      refine ⟨sz (by show 3 ≤ 100000; decide), fun p2 hp2 => ?_⟩
      refine q (.bin o f1 f2) _ _ ⟨o1, o2⟩ ?_ ((d4.put (d4.out hp2)).more (by omega)) (k12.trans (k3.trans (k4.trans (kp (sNew hp2))))) (Tp.bin upd_same (tpS (sNew hp2) (tp (d3.kt k4) t3)) (tpS (sNew hp2) t4))
      show 1 + max f1.dep f2.dep ≤ j + 1
      omega
end
end Sb


namespace Sb
open PySem PySem.Spec
open PyProof.Rows L2
section
variable {P : Program} {w : World} {K : PySem.W.Frag} {mg : Str → Option Value} {base : Heap}

theorem in_wd (o : Bool) : inV (.str (wd o)) [.str "or", .str "and"] = true := by cases o <;> decide +kernel
theorem in_int (i : Int) : inV (.int i) [.str "or", .str "and"] = false := rfl
theorem in_intY (i : Int) : inV (.int i) [.str "yes", .str "no"] = false := rfl

abbrev n_law_worth : List Str := ["_law_made_so", "_law_line"]
theorem sc_law_worth : FnScope n_law_worth ["_law_made_so", "_law_line"] (defScope s_law_worth) := ⟨rfl, rfl, rfl, by decide +kernel, rfl, by decide +kernel, by decide +kernel⟩
def spWorth (k : Nat) : Sp := fun vs H Q _ => ∃ (f : Fm) (r : Nat) (v : V), vs = [v, .int (r : Int)] ∧ Tp H v (dF f) ∧ f.ok 8 ∧ f.dep < k ∧ ∀ H', Same H H' → Q (.bl (f.so r)) H'
theorem ok_law_worth (T : Top K mg) : ∀ k : Nat, Ok P w K mg base (k + 2) "_law_worth" ["_law_made_so", "_law_line"] (spWorth k)
  | 0 => (Ok.never (T.at_ (st := s_law_worth) 45) (fun _ _ _ _ _ _ us hl => match us, hl with | [_, _], _ => rfl) (fun vs H Q E h => by
      obtain ⟨f, r, v, _, _, _, h, _⟩ := h
      exact absurd h (Nat.not_lt_zero _))).mono (Nat.zero_le _)
  | k + 1 => by
    have G_law_worth := ok_law_worth T k
    have G_law_is_so := ok_law_is_so (P := P) (w := w) (base := base) T
    refine mk (T.at_ (st := s_law_worth) 45) sc_law_worth (fun _ _ _ _ _ _ us hl => match us, hl with | [_, _], _ => rfl) (fun vs H Q E h => ?_) fun cdv A outer s H vs Q E hr h => ?_
    · obtain ⟨f, r, v, rfl, _⟩ := h
      rfl
    obtain ⟨f, r, v, rfl, hv, ok, hk, q⟩ := h
    refine ⟨_, pss_cons (ps_if (pt_cmpR op_eq (pIx K (pv 0) pe_int) pe_str (nomark _)) (pss_one (ps_ret (pe_or (pc G_law_worth hr (pa_cons (pIx K (pv 0) pe_int) (pa_cons (pv 1) pa_nil))) (pe_one (pc G_law_worth hr (pa_cons (pIx K (pv 0) pe_int) (pa_cons (pv 1) pa_nil))))))) pss_nil)
    <| pss_cons (ps_if (pt_cmpR op_eq (pIx K (pv 0) pe_int) pe_str (nomark _)) (pss_one (ps_ret (pe_and (pc G_law_worth hr (pa_cons (pIx K (pv 0) pe_int) (pa_cons (pv 1) pa_nil))) (pe_one (pc G_law_worth hr (pa_cons (pIx K (pv 0) pe_int) (pa_cons (pv 1) pa_nil))))))) pss_nil)
    <| pss_one (ps_ret (pc G_law_is_so hr (pa_cons (pv 0) (pa_cons (pv 1) pa_nil)))), ?_⟩
    cases f with
    | sg i b =>
      obtain ⟨a, rfl, ha⟩ := hv.sgE
      have hi : i < 8 := ok
      refine ⟨_, rfl, a, _, _, _, rfl, rfl, SqT.of ha, rfl, rfl, _, rfl, iteF ?_⟩
      refine ⟨_, rfl, a, _, _, _, rfl, rfl, SqT.of ha, rfl, rfl, _, rfl, iteF ?_⟩
      exact ⟨_, rfl, _, rfl, i, r, b, .ref a, rfl, hv, by omega, q⟩
    | bin o f g =>
      obtain ⟨a, x, y, rfl, ha, hx, hy⟩ := hv.binE
      have dd : Fm.dep (.bin o f g) = 1 + max f.dep g.dep := rfl
      refine ⟨_, rfl, a, _, _, _, rfl, rfl, SqT.of ha, rfl, rfl, _, rfl, ?_⟩
      rw [wd_or]
      cases o with
      | true =>
        refine iteT ?_
        refine ⟨_, rfl, a, _, _, _, rfl, rfl, SqT.of ha, rfl, _, rfl, f, r, x, rfl, hx, ok.1, by omega, fun H1 g1 => ⟨f.so r, rfl, ?_⟩⟩
        have e : (Fm.bin true f g).so r = (f.so r || g.so r) := rfl
        rw [e] at q
        cases hf : f.so r with
        | true =>
          rw [hf] at q
          exact iteT (q H1 g1)
        | false =>
          rw [hf] at q
          exact iteF ⟨_, rfl, a, _, _, _, rfl, rfl, SqT.of (g1 _ _ ha), rfl, _, rfl, g, r, y, rfl, tpS g1 hy, ok.2, by omega, fun H2 g2 => q H2 (g1.trans g2)⟩
      | false =>
        refine iteF ?_
        refine ⟨_, rfl, a, _, _, _, rfl, rfl, SqT.of ha, rfl, rfl, _, rfl, ?_⟩
        rw [wd_and]
        refine iteT ?_
        refine ⟨_, rfl, a, _, _, _, rfl, rfl, SqT.of ha, rfl, _, rfl, f, r, x, rfl, hx, ok.1, by omega, fun H1 g1 => ⟨f.so r, rfl, ?_⟩⟩
        have e : (Fm.bin false f g).so r = (f.so r && g.so r) := rfl
        rw [e] at q
        cases hf : f.so r with
        | false =>
          rw [hf] at q
          exact iteF (q H1 g1)
        | true =>
          rw [hf] at q
          exact iteT ⟨_, rfl, a, _, _, _, rfl, rfl, SqT.of (g1 _ _ ha), rfl, _, rfl, g, r, y, rfl, tpS g1 hy, ok.2, by omega, fun H2 g2 => q H2 (g1.trans g2)⟩

abbrev n_law_leaves : List Str := ["_law_told_so"]
theorem sc_law_leaves : FnScope n_law_leaves ["_law_told_so"] (defScope s_law_leaves) := ⟨rfl, rfl, rfl, by decide +kernel, rfl, by decide +kernel, by decide +kernel⟩
def spLeaves (k : Nat) : Sp := fun vs H Q _ => ∃ (f : Fm) (v : V), vs = [v] ∧ Tp H v (dF f) ∧ f.dep < k ∧ ∀ H', Same H H' → Q (.int (f.lvs : Int)) H'
theorem ok_law_leaves (T : Top K mg) : ∀ k : Nat, Ok P w K mg base (k + 1) "_law_leaves" ["_law_told_so"] (spLeaves k)
  | 0 => (Ok.never (T.at_ (st := s_law_leaves) 34) (fun _ _ _ _ _ _ us hl => match us, hl with | [_], _ => rfl) (fun vs H Q E h => by
      obtain ⟨f, v, _, _, h, _⟩ := h
      exact absurd h (Nat.not_lt_zero _))).mono (Nat.zero_le _)
  | k + 1 => by
    have G_law_leaves := ok_law_leaves T k
    refine mk (T.at_ (st := s_law_leaves) 34) sc_law_leaves (fun _ _ _ _ _ _ us hl => match us, hl with | [_], _ => rfl) (fun vs H Q E h => ?_) fun cdv A outer s H vs Q E hr h => ?_
    · obtain ⟨f, v, rfl, _⟩ := h
      rfl
    obtain ⟨f, v, rfl, hv, hk, q⟩ := h
    refine ⟨_, pss_cons (ps_if (pt_cmpR (opIn K) (pIx K (pv 0) pe_int) (pe_tup (pa_cons pe_str (pa_cons pe_str pa_nil))) (by rfl)) (pss_one (ps_ret (pe_op op_add (pc G_law_leaves hr (pa_cons (pIx K (pv 0) pe_int) pa_nil)) (pc G_law_leaves hr (pa_cons (pIx K (pv 0) pe_int) pa_nil))))) pss_nil)
    <| pss_one (ps_ret (pe_ifExp (pt_cmpR (opIn K) (pIx K (pv 0) pe_int) (pe_tup (pa_cons pe_str (pa_cons pe_str pa_nil))) (by rfl)) (pe_op op_add (pc G_law_leaves hr (pa_cons (pIx K (pv 0) pe_int) pa_nil)) (pc G_law_leaves hr (pa_cons (pIx K (pv 0) pe_int) pa_nil))) pe_int)), ?_⟩
    cases f with
    | sg i b =>
      obtain ⟨a, rfl, ha⟩ := hv.sgE
      refine ⟨_, rfl, a, _, _, _, rfl, rfl, SqT.of ha, rfl, sz (by show 2 ≤ 100000; decide), fun p hp => ⟨p, _, rfl, .inr (SqT.of upd_same), rfl, rfl, false, congrArg V.bl (in_int _), iteF ?_⟩⟩
      have g1 := sNew (o := .tup [.str "or", .str "and"]) hp
      refine ⟨_, rfl, a, _, _, _, rfl, rfl, SqT.of (g1 _ _ ha), rfl, sz (by show 2 ≤ 100000; decide), fun p2 hp2 => ⟨p2, _, rfl, .inr (SqT.of upd_same), rfl, rfl, false, congrArg V.bl (in_intY _), iteF ?_⟩⟩
      exact q _ (g1.trans (sNew hp2))
    | bin o f g =>
      obtain ⟨a, x, y, rfl, ha, hx, hy⟩ := hv.binE
      have dd : Fm.dep (.bin o f g) = 1 + max f.dep g.dep := rfl
      refine ⟨_, rfl, a, _, _, _, rfl, rfl, SqT.of ha, rfl, sz (by show 2 ≤ 100000; decide), fun p hp => ⟨p, _, rfl, .inr (SqT.of upd_same), rfl, rfl, true, congrArg V.bl (in_wd o), iteT ?_⟩⟩
      have g1 := sNew (o := .tup [.str "or", .str "and"]) hp
      refine ⟨_, rfl, a, _, _, _, rfl, rfl, SqT.of (g1 _ _ ha), rfl, f, x, rfl, tpS g1 hx, by omega, fun H2 g2 => ?_⟩
      refine ⟨_, rfl, a, _, _, _, rfl, rfl, SqT.of (g2 _ _ (g1 _ _ ha)), rfl, g, y, rfl, tpS (g1.trans g2) hy, by omega, fun H3 g3 => ?_⟩
      refine ⟨_, _, rfl, rfl, ?_⟩
      have e : (f.lvs : Int) + (g.lvs : Int) = ((Fm.bin o f g).lvs : Int) := (Int.natCast_add _ _).symm
      show Q (.int ((f.lvs : Int) + (g.lvs : Int))) H3
      rw [e]
      exact q _ (g1.trans (g2.trans g3))

abbrev n_law_moved : List Str := ["_law_made_so", "_law_first", "_law_about", "_law_word"]
theorem sc_law_moved : FnScope n_law_moved ["_law_made_so", "_law_first", "_law_about"] (defScope s_law_moved) := ⟨rfl, rfl, rfl, by decide +kernel, rfl, by decide +kernel, by decide +kernel⟩
def spLMv (k : Nat) : Sp := fun vs H Q _ => ∃ (j : Nat) (b : Bool) (f : Fm) (v : V), vs = [v, .int (j : Int), .bl b] ∧ Tp H v (dF f) ∧ f.dep < k ∧ ∀ r H', Same H H' → Tp H' r (dF (Fm.mv j (if b = true then f.ng else f))) → Q r H'
theorem ok_law_moved (T : Top K mg) : ∀ k : Nat, Ok P w K mg base (k + 1) "_law_moved" ["_law_made_so", "_law_first", "_law_about"] (spLMv k)
  | 0 => (Ok.never (T.at_ (st := s_law_moved) 50) (fun _ _ _ _ _ _ us hl => match us, hl with | [_, _, _], _ => rfl) (fun vs H Q E h => by
      obtain ⟨j, b, f, v, _, _, h, _⟩ := h
      exact absurd h (Nat.not_lt_zero _))).mono (Nat.zero_le _)
  | k + 1 => by
    have G_law_moved := ok_law_moved T k
    refine mk (T.at_ (st := s_law_moved) 50) sc_law_moved (fun _ _ _ _ _ _ us hl => match us, hl with | [_, _, _], _ => rfl) (fun vs H Q E h => ?_) fun cdv A outer s H vs Q E hr h => ?_
    · obtain ⟨j, b, f, v, rfl, _⟩ := h
      rfl
    obtain ⟨j, ab, f, v, rfl, hv, hk, q⟩ := h
    refine ⟨_, pss_cons (ps_if (pt_cmpR (opIn K) (pIx K (pv 0) pe_int) (pe_tup (pa_cons pe_str (pa_cons pe_str pa_nil))) (by rfl)) (pss_cons (ps_set (i := 3) sc_law_moved.nd rfl (Or.inl rfl) (pe_ifExp (pt_not (pt_val (pv 2))) (pIx K (pv 0) pe_int) (pe_ifExp (pt_cmpR op_eq (pIx K (pv 0) pe_int) pe_str (nomark _)) pe_str pe_str))) (pss_one (ps_ret (pe_tup (pa_cons (pv 3) (pa_cons (pc G_law_moved hr (pa_cons (pIx K (pv 0) pe_int) (pa_cons (pv 1) (pa_cons (pv 2) pa_nil)))) (pa_cons (pc G_law_moved hr (pa_cons (pIx K (pv 0) pe_int) (pa_cons (pv 1) (pa_cons (pv 2) pa_nil)))) pa_nil))))))) pss_nil)
    <| pss_one (ps_ret (pe_tup (pa_cons (pe_op op_add (pIx K (pv 0) pe_int) (pv 1)) (pa_cons (pe_ifExp (pt_val (pv 2)) (pe_op op_sub pe_int (pIx K (pv 0) pe_int)) (pIx K (pv 0) pe_int)) pa_nil)))), ?_⟩
    cases f with
    | sg i b =>
      obtain ⟨a, rfl, ha⟩ := hv.sgE
      refine ⟨_, rfl, a, _, _, _, rfl, rfl, SqT.of ha, rfl, sz (by show 2 ≤ 100000; decide), fun p hp => ⟨p, _, rfl, .inr (SqT.of upd_same), rfl, rfl, false, congrArg V.bl (in_int _), iteF ?_⟩⟩
      have g1 := sNew (o := .tup [.str "or", .str "and"]) hp
      have a1 := g1 _ _ ha
      generalize upd H p (.tup [.str "or", .str "and"]) = H1 at g1 a1
      have e1 : (i : Int) + (j : Int) = ((i + j : Nat) : Int) := (Int.natCast_add _ _).symm
      refine ⟨_, rfl, a, _, _, _, rfl, rfl, SqT.of a1, rfl, _, rfl, _, _, rfl, rfl, _, rfl, ab, rfl, ?_⟩
      cases ab with
      | true =>
        refine iteT ⟨_, rfl, a, _, _, _, rfl, rfl, SqT.of a1, rfl, _, _, rfl, rfl, sz (by show 2 ≤ 100000; decide), fun p2 hp2 => ?_⟩
        refine q _ _ (g1.trans (sNew hp2)) (.tup (xs := [.int ((i + j : Nat) : Int), .int (b2n (!b) : Int)]) ?_ (.cons (.int _) (.cons (.int _) .nil)))
        rw [upd_same, ← b2n_not, ← e1]
      | false =>
        refine iteF ⟨_, rfl, a, _, _, _, rfl, rfl, SqT.of a1, rfl, sz (by show 2 ≤ 100000; decide), fun p2 hp2 => ?_⟩
        refine q _ _ (g1.trans (sNew hp2)) (.tup (xs := [.int ((i + j : Nat) : Int), .int (b2n b : Int)]) ?_ (.cons (.int _) (.cons (.int _) .nil)))
        rw [upd_same, ← e1]
    | bin o f g =>
      obtain ⟨a, x, y, rfl, ha, hx, hy⟩ := hv.binE
      have dd : Fm.dep (.bin o f g) = 1 + max f.dep g.dep := rfl
      refine ⟨_, rfl, a, _, _, _, rfl, rfl, SqT.of ha, rfl, sz (by show 2 ≤ 100000; decide), fun p hp => ⟨p, _, rfl, .inr (SqT.of upd_same), rfl, rfl, true, congrArg V.bl (in_wd o), iteT ?_⟩⟩
      have g1 := sNew (o := .tup [.str "or", .str "and"]) hp
      have a1 := g1 _ _ ha
      generalize upd H p (.tup [.str "or", .str "and"]) = H1 at g1 a1
      -- from the word on
      have go : ∀ o2 : Bool, Fm.mv j (if ab = true then (Fm.bin o f g).ng else .bin o f g) = .bin o2 (Fm.mv j (if ab = true then f.ng else f)) (Fm.mv j (if ab = true then g.ng else g)) →
          (tRet (tTup (tCons (tVar 3) (tCons (tCall (spLMv k) [] E0 (tCons (tOp (rIxT K) (tVar 0) (tC (V.int 1))) (tCons (tVar 1) (tCons (tVar 2) tNil)))) (tCons (tCall (spLMv k) [] E0 (tCons (tOp (rIxT K) (tVar 0) (tC (V.int 2))) (tCons (tVar 1) (tCons (tVar 2) tNil)))) tNil)))))
            { nx := fun x H' => Q V.non H', rt := Q } [some (.ref a), some (.int (j : Int)), some (.bl ab), some (.str (wd o2))] H1 := by
        intro o2 e2
        rw [e2] at q
        refine ⟨_, rfl, _, rfl, a, _, _, _, rfl, rfl, SqT.of a1, rfl, _, rfl, _, rfl, j, ab, f, x, rfl, tpS g1 hx, by omega, fun r1 H2 g2 d2 => ?_⟩
        refine ⟨_, rfl, a, _, _, _, rfl, rfl, SqT.of (g2 _ _ a1), rfl, _, rfl, _, rfl, j, ab, g, y, rfl, tpS (g1.trans g2) hy, by omega, fun r2 H3 g3 d3 => ?_⟩
        refine ⟨sz (by show 3 ≤ 100000; decide), fun p2 hp2 => ?_⟩
        exact q _ _ (g1.trans (g2.trans (g3.trans (sNew hp2)))) (Tp.bin upd_same (tpS (g3.trans (sNew hp2)) d2) (tpS (sNew hp2) d3))
      refine ⟨_, rfl, ab, rfl, ?_⟩
      cases ab with
      | false => exact iteT ⟨_, rfl, a, _, _, _, rfl, rfl, SqT.of a1, rfl, go o rfl⟩
      | true =>
        refine iteF ⟨_, rfl, a, _, _, _, rfl, rfl, SqT.of a1, rfl, rfl, _, rfl, ?_⟩
        rw [wd_or]
        cases o with
        | true => exact iteT (go false rfl)
        | false => exact iteF (go true rfl)

abbrev n_law_put : List Str := ["_law_made_so", "_law_size", "_law_other"]
theorem sc_law_put : FnScope n_law_put ["_law_made_so", "_law_size", "_law_other"] (defScope s_law_put) := ⟨rfl, rfl, rfl, by decide +kernel, rfl, by decide +kernel, by decide +kernel⟩
def spLPut (k : Nat) : Sp := fun vs H Q _ => ∃ (m : Nat) (f g : Fm) (v u : V), vs = [v, .int (m : Int), u] ∧ m ≤ 8 ∧ Tp H v (dF f) ∧ Tp H u (dF g) ∧ g.dep ≤ 60 ∧ f.dep < k ∧ ∀ r H', Same H H' → Tp H' r (dF (Fm.put m g f)) → Q r H'
theorem b2n_zero (b : Bool) : decide (V.int (b2n b : Int) = V.int 0) = !b := by cases b <;> decide
theorem ok_law_put (T : Top K mg) : ∀ k : Nat, Ok P w K mg base (k + 62) "_law_put" ["_law_made_so", "_law_size", "_law_other"] (spLPut k)
  | 0 => (Ok.never (T.at_ (st := s_law_put) 51) (fun _ _ _ _ _ _ us hl => match us, hl with | [_, _, _], _ => rfl) (fun vs H Q E h => by
      obtain ⟨m, f, g, v, u, _, _, _, _, _, h, _⟩ := h
      exact absurd h (Nat.not_lt_zero _))).mono (Nat.zero_le _)
  | k + 1 => by
    have G_law_put := ok_law_put T k
    have G_law_moved := ok_law_moved (P := P) (w := w) (base := base) T 61
    refine mk (T.at_ (st := s_law_put) 51) sc_law_put (fun _ _ _ _ _ _ us hl => match us, hl with | [_, _, _], _ => rfl) (fun vs H Q E h => ?_) fun cdv A outer s H vs Q E hr h => ?_
    · obtain ⟨m, f, g, v, u, rfl, _⟩ := h
      rfl
    obtain ⟨m, f, g, v, u, rfl, m8, hv, hu, g60, hk, q⟩ := h
    refine ⟨_, pss_cons (ps_if (pt_cmpR (opIn K) (pIx K (pv 0) pe_int) (pe_tup (pa_cons pe_str (pa_cons pe_str pa_nil))) (by rfl)) (pss_one (ps_ret (pe_tup (pa_cons (pIx K (pv 0) pe_int) (pa_cons (pc G_law_put hr (pa_cons (pIx K (pv 0) pe_int) (pa_cons (pv 1) (pa_cons (pv 2) pa_nil)))) (pa_cons (pc G_law_put hr (pa_cons (pIx K (pv 0) pe_int) (pa_cons (pv 1) (pa_cons (pv 2) pa_nil)))) pa_nil)))))) pss_nil)
    <| pss_one (ps_ret (pc G_law_moved hr (pa_cons (pv 2) (pa_cons (pe_op op_mul (pIx K (pv 0) pe_int) (pv 1)) (pa_cons (pe_cmpR op_eq (pIx K (pv 0) pe_int) pe_int (nomark _)) pa_nil))))), ?_⟩
    cases f with
    | sg i b =>
      obtain ⟨a, rfl, ha⟩ := hv.sgE
      refine ⟨_, rfl, a, _, _, _, rfl, rfl, SqT.of ha, rfl, sz (by show 2 ≤ 100000; decide), fun p hp => ⟨p, _, rfl, .inr (SqT.of upd_same), rfl, rfl, false, congrArg V.bl (in_int _), iteF ?_⟩⟩
      have g1 := sNew (o := .tup [.str "or", .str "and"]) hp
      have a1 := g1 _ _ ha
      generalize upd H p (.tup [.str "or", .str "and"]) = H1 at g1 a1
      have eim : (i : Int) * (m : Int) = ((i * m : Nat) : Int) := (Int.natCast_mul i m).symm
      refine ⟨_, rfl, _, rfl, a, _, _, _, rfl, rfl, SqT.of a1, rfl, _, rfl, _, _, rfl, rfl, .inr ⟨by omega, by omega⟩, _, rfl, a, _, _, _, rfl, rfl, SqT.of a1, rfl, rfl, ?_⟩
      refine ⟨i * m, !b, g, u, ?_, tpS g1 hu, by omega, fun r H' g2 d2 => q r H' (g1.trans g2) ?_⟩
      · rw [← eim, ← b2n_zero] <;> rfl
      · have e1 : Fm.put m g (.sg i b) = Fm.mv (i * m) (if b = true then g else g.ng) := rfl
        rw [e1]
        cases b with
        | true => exact d2
        | false => exact d2
    | bin o f1 f2 =>
      obtain ⟨a, x, y, rfl, ha, hx, hy⟩ := hv.binE
      have dd : Fm.dep (.bin o f1 f2) = 1 + max f1.dep f2.dep := rfl
      refine ⟨_, rfl, a, _, _, _, rfl, rfl, SqT.of ha, rfl, sz (by show 2 ≤ 100000; decide), fun p hp => ⟨p, _, rfl, .inr (SqT.of upd_same), rfl, rfl, true, congrArg V.bl (in_wd o), iteT ?_⟩⟩
      have g1 := sNew (o := .tup [.str "or", .str "and"]) hp
      have a1 := g1 _ _ ha
      generalize upd H p (.tup [.str "or", .str "and"]) = H1 at g1 a1
      refine ⟨_, rfl, a, _, _, _, rfl, rfl, SqT.of a1, rfl, _, rfl, a, _, _, _, rfl, rfl, SqT.of a1, rfl, _, rfl, _, rfl, m, f1, g, x, u, rfl, m8, tpS g1 hx, tpS g1 hu, g60, by omega, fun r1 H2 g2 d2 => ?_⟩
      refine ⟨_, rfl, a, _, _, _, rfl, rfl, SqT.of (g2 _ _ a1), rfl, _, rfl, _, rfl, m, f2, g, y, u, rfl, m8, tpS (g1.trans g2) hy, tpS (g1.trans g2) hu, g60, by omega, fun r2 H3 g3 d3 => ?_⟩
      refine ⟨sz (by show 3 ≤ 100000; decide), fun p2 hp2 => ?_⟩
      exact q _ _ (g1.trans (g2.trans (g3.trans (sNew hp2)))) (Tp.bin (o := o) (f := Fm.put m g f1) (g := Fm.put m g f2) upd_same (tpS (g3.trans (sNew hp2)) d2) (tpS (sNew hp2) d3))
end
end Sb


namespace Sb
open PySem PySem.Spec
open PyProof.Rows L2
section
variable {P : Program} {w : World} {K : PySem.W.Frag} {mg : Str → Option Value} {base : Heap}

/-! ### talks -/
inductive Tk where
  | sg (i : Nat) (v : Bool)
  | q (y : Bool) (l : List Nat) (a b : Tk)
def tfm : Tk → Fm
  | .sg i v => .sg i v
  | .q y _ a b => .bin y (tfm a) (tfm b)
def yn (y : Bool) : Str := if y = true then "yes" else "no"
def dTk : Tk → PyData
  | .sg i v => dS i v
  | .q y l a b => .tuple [.str (yn y), dI (nats l), dTk a, dTk b]
/-- the talk tells the near rows from the far ones -/
structure Tells (n : Nat) (f : Fm) (near far : List Nat) : Prop where
  ok : f.ok n
  nr : ∀ r, r ∈ near → f.so r = true
  fr : ∀ r, r ∈ far → f.so r = false
  dp : f.dep + 2 ≤ near.length + far.length
theorem pard_iff {i : Nat} {b : Bool} {near far : List Nat} : pard i b near far = true ↔ (∀ r, r ∈ near → bit r i = b) ∧ ∀ r, r ∈ far → bit r i ≠ b := by
  unfold pard
  simp only [Bool.and_eq_true, List.all_eq_true, Bool.not_eq_true', List.any_eq_false, decide_eq_true_eq]
theorem pard_tells {n i : Nat} {b : Bool} {near far : List Nat} (h : pard i b near far = true) (hi : i < n) (h1 : near ≠ []) (h2 : far ≠ []) : Tells n (.sg i b) near far := by
  obtain ⟨a, c⟩ := pard_iff.mp h
  refine ⟨hi, fun r hr => decide_eq_true (a r hr), fun r hr => decide_eq_false (c r hr), ?_⟩
  have z1 := List.length_pos_iff.mpr h1
  have z2 := List.length_pos_iff.mpr h2
  show 0 + 2 ≤ near.length + far.length
  omega
/-- two rows are told apart by a sign -/
theorem ex_sign {n r s : Nat} (h : r ≠ s) (hr : r < 2 ^ n) (hs : s < 2 ^ n) : ∃ i, i < n ∧ pard i (bit r i) [r] [s] = true := by
  apply Classical.byContradiction
  intro no
  have e : ∀ i, i < n → bit r i = bit s i := fun i hi => by
    apply Classical.byContradiction
    intro z
    refine no ⟨i, hi, pard_iff.mpr ⟨fun x hx => ?_, fun x hx => ?_⟩⟩
    · rw [List.mem_singleton.mp hx]
    · rw [List.mem_singleton.mp hx]
      exact fun y => z y.symm
  have e2 : ∀ i, i < n → r / 2 ^ i % 2 * 2 ^ i = s / 2 ^ i % 2 * 2 ^ i := fun i hi => by
    have z := e i hi
    unfold bit at z
    have z2 : r / 2 ^ i % 2 = s / 2 ^ i % 2 := by
      by_cases c : r / 2 ^ i % 2 = 1
      · have c2 : s / 2 ^ i % 2 = 1 := by
          rw [decide_eq_true c] at z
          exact of_decide_eq_true z.symm
        rw [c, c2]
      · have c2 : ¬ s / 2 ^ i % 2 = 1 := by
          rw [decide_eq_false c] at z
          exact of_decide_eq_false z.symm
        have m1 := Nat.mod_lt (r / 2 ^ i) (show 0 < 2 by decide)
        have m2 := Nat.mod_lt (s / 2 ^ i) (show 0 < 2 by decide)
        generalize r / 2 ^ i % 2 = u at c m1 ⊢
        generalize s / 2 ^ i % 2 = u2 at c2 m2 ⊢
        omega
    rw [z2]
  have e3 := sumTo_congr e2
  rw [ofB_bit, ofB_bit, Nat.mod_eq_of_lt hr, Nat.mod_eq_of_lt hs] at e3
  exact h e3
/-- rows that are to be told apart -/
structure Rows (n : Nat) (near far : List Nat) : Prop where
  n1 : near ≠ []
  f1 : far ≠ []
  nn : near.Nodup
  nf : far.Nodup
  ap : ∀ r, r ∈ near → r ∉ far
  ln : ∀ r, r ∈ near → r < 2 ^ n
  lf : ∀ r, r ∈ far → r < 2 ^ n
theorem Rows.three {n : Nat} {near far : List Nat} (R : Rows n near far) (no : ∀ i b, i < n → pard i b near far = false) : 3 ≤ near.length + far.length := by
  have z1 := List.length_pos_iff.mpr R.n1
  have z2 := List.length_pos_iff.mpr R.f1
  apply Classical.byContradiction
  intro c
  obtain ⟨r, hr⟩ := List.length_eq_one_iff.mp (show near.length = 1 by omega)
  obtain ⟨s, hs⟩ := List.length_eq_one_iff.mp (show far.length = 1 by omega)
  subst hr hs
  obtain ⟨i, hi, p⟩ := ex_sign (n := n) (r := r) (s := s) (fun z => R.ap r (List.mem_singleton.mpr rfl) (List.mem_singleton.mpr z)) (R.ln r (List.mem_singleton.mpr rfl)) (R.lf s (List.mem_singleton.mpr rfl))
  rw [no _ _ hi] at p
  cases p
/-- what is left of the rows -/
def lft (ys W : List Nat) : List Nat := W.filter fun r => !decide (r ∈ ys)
theorem sub_out {ys W : List Nat} (h : List.Sublist ys W) : W.Nodup → ys ≠ W → ∃ x, x ∈ W ∧ x ∉ ys := by
  induction h with
  | slnil => exact fun _ z => absurd rfl z
  | @cons l1 l2 a h ih =>
    intro nd _
    have a1 : a ∉ l2 := (List.nodup_cons.mp nd).1
    exact ⟨a, List.mem_cons_self, fun z => a1 (h.subset z)⟩
  | @cons_cons l1 l2 a h ih =>
    intro nd ne
    obtain ⟨a1, nd2⟩ := List.nodup_cons.mp nd
    obtain ⟨x, h1, h2⟩ := ih nd2 (fun z => ne (by rw [z]))
    refine ⟨x, List.mem_cons_of_mem _ h1, fun z => ?_⟩
    rcases List.mem_cons.mp z with rfl | z
    · exact a1 h1
    · exact h2 z
structure Cut (ys W : List Nat) : Prop where
  sub : List.Sublist ys W
  ne : ys ≠ []
  ne2 : ys ≠ W
theorem Cut.lt {ys W : List Nat} (c : Cut ys W) : ys.length < W.length := by
  have a := c.sub.length_le
  have b : ys.length ≠ W.length := fun z => c.ne2 (c.sub.eq_of_length z)
  omega
theorem Cut.lft_lt {ys W : List Nat} (c : Cut ys W) : (lft ys W).length < W.length := by
  unfold lft
  refine List.length_filter_lt_length_iff_exists.mpr ?_
  obtain ⟨y, r, e⟩ := List.exists_cons_of_ne_nil c.ne
  refine ⟨y, c.sub.subset (by rw [e]; exact List.mem_cons_self), ?_⟩
  have : y ∈ ys := by rw [e]; exact List.mem_cons_self
  rw [decide_eq_true this]
  decide
theorem lft_mem {ys W : List Nat} {x : Nat} : x ∈ lft ys W ↔ x ∈ W ∧ x ∉ ys := by
  unfold lft
  rw [List.mem_filter]
  simp
theorem Cut.lft_ne {ys W : List Nat} (c : Cut ys W) (nd : W.Nodup) : lft ys W ≠ [] := by
  obtain ⟨x, h1, h2⟩ := sub_out c.sub nd c.ne2
  exact fun z => by
    have a := lft_mem.mpr ⟨h1, h2⟩
    rw [z] at a
    cases a
theorem nodup_sub {a b : List Nat} (h : List.Sublist a b) (n : b.Nodup) : a.Nodup := List.Pairwise.sublist h n
theorem Rows.left {n : Nat} {near far ys : List Nat} (R : Rows n near far) (c : Cut ys near) : Rows n ys far ∧ Rows n (lft ys near) far :=
  ⟨⟨c.ne, R.f1, nodup_sub c.sub R.nn, R.nf, fun r h => R.ap r (c.sub.subset h), fun r h => R.ln r (c.sub.subset h), R.lf⟩,
   ⟨c.lft_ne R.nn, R.f1, nodup_sub List.filter_sublist R.nn, R.nf, fun r h => R.ap r (lft_mem.mp h).1, fun r h => R.ln r (lft_mem.mp h).1, R.lf⟩⟩
theorem Rows.right {n : Nat} {near far ys : List Nat} (R : Rows n near far) (c : Cut ys far) : Rows n near ys ∧ Rows n near (lft ys far) :=
  ⟨⟨R.n1, c.ne, R.nn, nodup_sub c.sub R.nf, fun r h z => R.ap r h (c.sub.subset z), R.ln, fun r h => R.lf r (c.sub.subset h)⟩,
   ⟨R.n1, c.lft_ne R.nf, R.nn, nodup_sub List.filter_sublist R.nf, fun r h z => R.ap r h (lft_mem.mp z).1, R.ln, fun r h => R.lf r (lft_mem.mp h).1⟩⟩
theorem Tells.left {n : Nat} {f g : Fm} {near far ys : List Nat} (c : Cut ys near) (h1 : Tells n f ys far) (h2 : Tells n g (lft ys near) far) : Tells n (.bin true f g) near far := by
  refine ⟨⟨h1.ok, h2.ok⟩, fun r hr => ?_, fun r hr => ?_, ?_⟩
  · show (f.so r || g.so r) = true
    by_cases z : r ∈ ys
    · rw [h1.nr r z]
      rfl
    · rw [h2.nr r (lft_mem.mpr ⟨hr, z⟩), Bool.or_true]
  · show (f.so r || g.so r) = false
    rw [h1.fr r hr, h2.fr r hr]
    rfl
  · have a := h1.dp
    have b := h2.dp
    have z1 := c.lt
    have z2 := c.lft_lt
    show 1 + max f.dep g.dep + 2 ≤ _
    omega
theorem Tells.right {n : Nat} {f g : Fm} {near far ys : List Nat} (c : Cut ys far) (h1 : Tells n f near ys) (h2 : Tells n g near (lft ys far)) : Tells n (.bin false f g) near far := by
  refine ⟨⟨h1.ok, h2.ok⟩, fun r hr => ?_, fun r hr => ?_, ?_⟩
  · show (f.so r && g.so r) = true
    rw [h1.nr r hr, h2.nr r hr]
    rfl
  · show (f.so r && g.so r) = false
    by_cases z : r ∈ ys
    · rw [h1.fr r z]
      rfl
    · rw [h2.fr r (lft_mem.mpr ⟨hr, z⟩), Bool.and_false]
  · have a := h1.dp
    have b := h2.dp
    have z1 := c.lt
    have z2 := c.lft_lt
    show 1 + max f.dep g.dep + 2 ≤ _
    omega

/-! ### data: ints side by side -/
theorem eqv_ints : ∀ ns ms : List Int, PyData.eqvAll (ns.map PyData.int) (ms.map PyData.int) = decide (ns = ms)
  | [], [] => by simp [PyData.eqvAll]
  | [], _ :: _ => by simp [PyData.eqvAll]
  | _ :: _, [] => by simp [PyData.eqvAll]
  | n :: ns, m :: ms => by
    have ih := eqv_ints ns ms
    simp only [List.map_cons, PyData.eqvAll, PyData.eqv, ih]
    rw [Bool.eq_iff_iff]
    simp
theorem eqv_dI (ns ms : List Int) : PyData.eqv (dI ns) (dI ms) = decide (ns = ms) := by
  unfold dI
  simp only [PyData.eqv]
  exact eqv_ints ns ms
theorem dI_shaped (ns : List Int) : SeqAt.shaped (dI ns) = true := by
  refine tup_shaped (fun d hd => ?_) fun d hd => ?_
  · obtain ⟨n, _, rfl⟩ := List.mem_map.mp hd
    simp only [PyData.canLay0]
  · obtain ⟨n, _, rfl⟩ := List.mem_map.mp hd
    simp [PyData.depth]
theorem nats_inj {a b : List Nat} (h : nats a = nats b) : a = b := by
  unfold nats at h
  exact List.map_inj_right (fun x y z => Int.ofNat.inj z) |>.mp h
theorem in_nats (r : Nat) (ys : List Nat) : inV (.int (r : Int)) ((nats ys).map V.int) = decide (r ∈ ys) := by
  unfold inV nats
  induction ys with
  | nil => rfl
  | cons y t ih =>
    rw [List.map_cons, List.map_cons, List.any_cons, ih]
    have e : eqV (.int ((y : Nat) : Int)) (.int (r : Int)) = decide (y = r) := by
      show (((y : Nat) : Int) == (r : Int)) = decide (y = r)
      rw [Bool.eq_iff_iff]
      simp [Int.ofNat_inj]
    rw [e, Bool.eq_iff_iff]
    simp only [Bool.or_eq_true, decide_eq_true_eq, List.mem_cons]
    exact ⟨fun h => h.elim (fun z => .inl z.symm) .inr, fun h => h.elim (fun z => .inl z.symm) .inr⟩
theorem flat_ints (ns : List Int) : (ns.map V.int).all flatV = true := by
  rw [List.all_eq_true]
  intro x hx
  obtain ⟨n, _, rfl⟩ := List.mem_map.mp hx
  rfl

/-! ### a row of steps, cut in two -/
theorem seqW {A B : TS} {D : Ends} {σ : L2.St} {H : Hp} (P : L2.St → Hp → Prop) (head : ∀ R : L2.St → Hp → Prop, (∀ σ' H', P σ' H' → R σ' H') → A { D with nx := R } σ H) (tail : ∀ σ' H', P σ' H' → B D σ' H') : tSeq A B D σ H := head _ tail
theorem ifW {c : TT} {t u : TS} {D : Ends} {σ : L2.St} {H : Hp} (P1 P0 : Hp → Prop) (hc : ∀ R : Bool → Hp → Prop, (∀ H', P1 H' → R true H') → (∀ H', P0 H' → R false H') → c σ H R) (ht : ∀ H', P1 H' → t D σ H') (hu : ∀ H', P0 H' → u D σ H') : tIfS c t u D σ H :=
  hc _ (fun H' h => by rw [if_pos rfl]; exact ht H' h) fun H' h => by rw [if_neg Bool.false_ne_true]; exact hu H' h

abbrev n_law_as_formula : List Str := ["_law_told_so", "_law_word"]
theorem sc_law_as_formula : FnScope n_law_as_formula ["_law_told_so"] (defScope s_law_as_formula) := ⟨rfl, rfl, rfl, by decide +kernel, rfl, by decide +kernel, by decide +kernel⟩
def spAsF (k : Nat) : Sp := fun vs H Q _ => ∃ (t : Tk) (v : V), vs = [v] ∧ Tp H v (dTk t) ∧ (tfm t).dep < k ∧ ∀ r H', Same H H' → Tp H' r (dF (tfm t)) → Q r H'
theorem ni_int (i : Int) : V.bl (!inV (.int i) [.str "yes", .str "no"]) = V.bl true := rfl
theorem in_yn (o : Bool) : inV (.str (yn o)) [.str "yes", .str "no"] = true := by cases o <;> decide +kernel
theorem ni_yn (o : Bool) : V.bl (!inV (.str (yn o)) [.str "yes", .str "no"]) = V.bl false := by rw [in_yn] <;> rfl
theorem yn_yes (o : Bool) : decide (V.str (yn o) = V.str "yes") = o := by cases o <;> decide +kernel
theorem ok_law_as_formula (T : Top K mg) : ∀ k : Nat, Ok P w K mg base (k + 1) "_law_as_formula" ["_law_told_so"] (spAsF k)
  | 0 => (Ok.never (T.at_ (st := s_law_as_formula) 53) (fun _ _ _ _ _ _ us hl => match us, hl with | [_], _ => rfl) (fun vs H Q E h => by
      obtain ⟨t, v, _, _, h, _⟩ := h
      exact absurd h (Nat.not_lt_zero _))).mono (Nat.zero_le _)
  | k + 1 => by
    have G_law_as_formula := ok_law_as_formula T k
    refine mk (T.at_ (st := s_law_as_formula) 53) sc_law_as_formula (fun _ _ _ _ _ _ us hl => match us, hl with | [_], _ => rfl) (fun vs H Q E h => ?_) fun cdv A outer s H vs Q E hr h => ?_
    · obtain ⟨t, v, rfl, _⟩ := h
      rfl
    obtain ⟨t, v, rfl, hv, hk, q⟩ := h
    refine ⟨_, pss_cons (ps_if (pt_cmpR (opNi K) (pIx K (pv 0) pe_int) (pe_tup (pa_cons pe_str (pa_cons pe_str pa_nil))) (by rfl)) (pss_one (ps_ret (pv 0))) pss_nil)
    <| pss_cons (ps_set (i := 1) sc_law_as_formula.nd rfl (Or.inl rfl) (pe_ifExp (pt_cmpR op_eq (pIx K (pv 0) pe_int) pe_str (nomark _)) pe_str pe_str))
    <| pss_one (ps_ret (pe_tup (pa_cons (pv 1) (pa_cons (pc G_law_as_formula hr (pa_cons (pIx K (pv 0) pe_int) pa_nil)) (pa_cons (pc G_law_as_formula hr (pa_cons (pIx K (pv 0) pe_int) pa_nil)) pa_nil))))), ?_⟩
    cases t with
    | sg i b =>
      have hv' : Tp H v (dF (.sg i b)) := hv
      obtain ⟨a, rfl, ha⟩ := hv'.sgE
      refine ⟨_, rfl, a, _, _, _, rfl, rfl, SqT.of ha, rfl, sz (by show 2 ≤ 100000; decide), fun p hp => ⟨p, _, rfl, .inr (SqT.of upd_same), rfl, rfl, true, ni_int ((i : Nat) : Int), iteT ?_⟩⟩
      exact ⟨_, rfl, q _ _ (sNew hp) (tpS (sNew hp) hv')⟩
    | q y l f g =>
      obtain ⟨a, x0, x1, x, z, rfl, ha, h0, h1, hx, hz⟩ := Tp.four hv
      obtain rfl := h0.strE
      have dd : (tfm (.q y l f g)).dep = 1 + max (tfm f).dep (tfm g).dep := rfl
      refine ⟨_, rfl, a, _, _, _, rfl, rfl, SqT.of ha, rfl, sz (by show 2 ≤ 100000; decide), fun p hp => ⟨p, _, rfl, .inr (SqT.of upd_same), rfl, rfl, false, ni_yn y, iteF ?_⟩⟩
      have g1 := sNew (o := .tup [.str "yes", .str "no"]) hp
      have a1 := g1 _ _ ha
      generalize upd H p (.tup [.str "yes", .str "no"]) = H1 at g1 a1
      refine ⟨_, rfl, a, _, _, _, rfl, rfl, SqT.of a1, rfl, rfl, _, rfl, ?_⟩
      rw [yn_yes]
      have go : (tRet (tTup (tCons (tVar 1) (tCons (tCall (spAsF k) [] E0 (tCons (tOp (rIxT K) (tVar 0) (tC (V.int 2))) tNil)) (tCons (tCall (spAsF k) [] E0 (tCons (tOp (rIxT K) (tVar 0) (tC (V.int 3))) tNil)) tNil)))))
            { nx := fun x H' => Q V.non H', rt := Q } [some (.ref a), some (.str (wd y))] H1 := by
        refine ⟨_, rfl, _, rfl, a, _, _, _, rfl, rfl, SqT.of a1, rfl, f, x, rfl, tpS g1 hx, by omega, fun r1 H2 g2 d2 => ?_⟩
        refine ⟨_, rfl, a, _, _, _, rfl, rfl, SqT.of (g2 _ _ a1), rfl, g, z, rfl, tpS (g1.trans g2) hz, by omega, fun r2 H3 g3 d3 => ?_⟩
        refine ⟨sz (by show 3 ≤ 100000; decide), fun p2 hp2 => ?_⟩
        exact q _ _ (g1.trans (g2.trans (g3.trans (sNew hp2)))) (Tp.bin (o := y) (f := tfm f) (g := tfm g) upd_same (tpS (g3.trans (sNew hp2)) d2) (tpS (sNew hp2) d3))
      cases y with
      | true => exact iteT go
      | false => exact iteF go

abbrev n_law_put_values : List Str := ["_law_near", "_law_far", "_law_found", "_law_size", "_law_line", "_law_bits", "_law_told_here", "_law_block", "_law_inner_line", "_law_spot"]
theorem sc_law_put_values : FnScope n_law_put_values ["_law_near", "_law_far"] (defScope s_law_put_values) := ⟨rfl, rfl, rfl, by decide +kernel, rfl, by decide +kernel, by decide +kernel⟩
def spPv : Sp := fun vs H Q _ => ∃ (n m : Nat) (A B : List Bool) (u v : V), vs = [u, v] ∧ Two H u v n A m B ∧ ∀ r H', Same H H' → Tp H' r (dI (zo (tin n A m B))) → Q r H'
theorem ok_law_put_values (T : Top K mg) : Ok P w K mg base 2 "_law_put_values" ["_law_near", "_law_far"] spPv := by
  have G_law_power := ok_law_power (P := P) (w := w) (base := base) T
  have G_law_bits_of := ok_law_bits_of (P := P) (w := w) (base := base) T
  refine mk (T.at_ (st := s_law_put_values) 47) sc_law_put_values (fun _ _ _ _ _ _ us hl => match us, hl with | [_, _], _ => rfl) (fun vs H Q E h => ?_) fun cdv A outer s H vs Q E hr h => ?_
  · obtain ⟨n, m, A, B, u, v, rfl, _⟩ := h
    rfl
  obtain ⟨n, m, A', B', u, v, rfl, tt, q⟩ := h
  obtain ⟨l1, l2⟩ := tt.le
  obtain ⟨hu, hv, h1, h2, h3, hA, hB⟩ := id tt
  obtain ⟨a, b, rfl, ha, hb⟩ := hu.tabE
  obtain ⟨c, d, rfl, hc, hd⟩ := hv.tabE
  have enm : (n : Int) * (m : Int) = ((n * m : Nat) : Int) := (Int.natCast_mul n m).symm
  have pw8 : 2 ^ (n * m) ≤ 256 := Nat.le_trans (Nat.pow_le_pow_right (by decide) h3) (by decide)
  refine ⟨_, pss_cons (ps_asg (pe_tup (pa_cons (pe_lst pa_nil) (pa_cons (pIx K (pv 1) pe_int) pa_nil))) (pg_tup rfl (pgs_cons (pg_name (i := 2) sc_law_put_values.nd rfl (Or.inl rfl)) (pgs_cons (pg_name (i := 3) sc_law_put_values.nd rfl (Or.inr rfl)) pgs_nil))))
    <| pss_cons (ps_for PassesOwn.never rfl (pi_range1 rfl T.range (pa_cons (pc G_law_power hr (pa_cons (pe_op op_mul (pIx K (pv 0) pe_int) (pv 3)) pa_nil)) pa_nil)) (pg_name (i := 4) sc_law_put_values.nd rfl (Or.inl rfl)) (pss_cons (ps_asg (pe_tup (pa_cons (pc G_law_bits_of hr (pa_cons (pv 4) (pa_cons (pe_op op_mul (pIx K (pv 0) pe_int) (pv 3)) pa_nil))) (pa_cons pe_int pa_nil))) (pg_tup rfl (pgs_cons (pg_name (i := 5) sc_law_put_values.nd rfl (Or.inr rfl)) (pgs_cons (pg_name (i := 6) sc_law_put_values.nd rfl (Or.inl rfl)) pgs_nil)))) (pss_cons (ps_for PassesOwn.never rfl (pi_range1 rfl T.range (pa_cons (pIx K (pv 0) pe_int) pa_nil)) (pg_name (i := 7) sc_law_put_values.nd rfl (Or.inr rfl)) (pss_cons (ps_set (i := 8) sc_law_put_values.nd rfl (Or.inl rfl) (pSum K T.sum (pe_lc (own := [("_law_spot", 9)]) (g := gName 9) rfl sc_law_put_values.nd (pi_range1 rfl T.range (pa_cons (pv 3) pa_nil)) (blkOk_by (N := n_law_put_values) (sc := defScope s_law_put_values) (by decide +kernel)) (fun _ _ _ _ _ => (pg_name (i := 9) sc_law_put_values.nd rfl (Or.inl rfl))) (fun _ _ _ _ _ => pts_nil) (fun _ _ _ _ _ => (pe_op op_mul (pIxL K (pv 5) (pe_op op_add (pe_op op_mul (pv 7) (pv 3)) (pv 9))) (pc G_law_power hr (pa_cons (pv 9) pa_nil))))))) (pss_one (ps_set (i := 6) sc_law_put_values.nd rfl (Or.inl rfl) (pe_op op_add (pv 6) (pe_op op_mul (pIx K (pIx K (pv 1) pe_int) (pv 8)) (pc G_law_power hr (pa_cons (pv 7) pa_nil)))))))) (pss_one (ps_expr (pe_bm PySem.F.plainAttrs_list PySem.F.slot_list_append PySem.F.type_list_append mt_append (pv 2) (pa_cons (pIx K (pIx K (pv 0) pe_int) (pv 6)) pa_nil)))))))
    <| pss_one (ps_ret (pTup K T.tuple (pv 2))), ?_⟩
  refine ⟨sz (by show 0 ≤ 100000; decide), fun l hl => ?_⟩
  have g0 : Same H (upd H l (.lst [])) := sNew hl
  have k0 : (upd H l (.lst [])) l = some (.lst []) := upd_same
  generalize upd H l (.lst []) = H0 at g0 k0
  refine ⟨_, rfl, c, _, _, _, rfl, rfl, SqT.of (g0 _ _ hc), rfl, sz (by show 2 ≤ 100000; decide), fun p hp => ?_⟩
  refine ⟨p, _, rfl, SqT.of upd_same, rfl, _, _, rfl, _, _, rfl, rfl, ?_⟩
  have g1 : Same H (upd H0 p (.tup [.ref l, .int (m : Int)])) := g0.trans (sNew hp)
  have k1 := sNew (o := .tup [.ref l, .int (m : Int)]) hp _ _ k0
  generalize upd H0 p (.tup [.ref l, .int (m : Int)]) = H1 at g1 k1
  refine ⟨_, rfl, a, _, _, _, rfl, rfl, SqT.of (g1 _ _ ha), rfl, _, rfl, _, _, rfl, rfl, .inl ⟨by omega, by omega⟩, n * m, by rw [← enm] <;> rfl, by omega, ((2 ^ (n * m) : Nat) : Int), rfl, Int.natCast_nonneg _, by omega, ?_⟩
  refine for_range (lo := 0) (n := 2 ^ (n * m)) (fun i σ H' => Same H H' ∧ H' l = some (.lst (((List.range i).map fun r => (b2n (Sb.at_ A' (tot n m (Sb.at_ B') r)) : Int)).map V.int)) ∧ ∃ x1 x2 x3 x4 x5, σ = [some (.ref a), some (.ref c), some (.ref l), some (.int (m : Int)), x1, x2, x3, x4, x5, none])
    ⟨g1, k1, _, _, _, _, _, rfl⟩ (fun i σ H' hi h => ?_) fun σ H' h => ?_
  · obtain ⟨g, kl, x1, x2, x3, x4, x5, rfl⟩ := h
    have e0 : (0 : Int) + (i : Int) = ((i : Nat) : Int) := Int.zero_add _
    rw [e0]
    refine ⟨_, rfl, _, rfl, a, _, _, _, rfl, rfl, SqT.of (g _ _ ha), rfl, _, rfl, _, _, rfl, rfl, .inl ⟨by omega, by omega⟩, i, n * m, by rw [← enm] <;> rfl, by omega, fun bl H2 g2 kb => ?_⟩
    refine ⟨sz (by show 2 ≤ 100000; decide), fun p2 hp2 => ?_⟩
    refine ⟨p2, _, rfl, SqT.of upd_same, rfl, _, _, rfl, _, _, rfl, rfl, ?_⟩
    have g3 : Same H' (upd H2 p2 (.tup [.ref bl, .int 0])) := g2.trans (sNew hp2)
    have kb3 := sNew (o := .tup [.ref bl, .int 0]) hp2 _ _ kb
    have kl3 := g3 _ _ kl
    generalize upd H2 p2 (.tup [.ref bl, .int 0]) = H3 at g3 kb3 kl3
    have gH := g.trans g3
    refine ⟨_, rfl, a, _, _, _, rfl, rfl, SqT.of (gH _ _ ha), rfl, (n : Int), rfl, by omega, by omega, ?_⟩
    refine for_range (lo := 0) (n := n) (fun j σ H4 => Same H3 H4 ∧ ∃ x4 x5, σ = [some (.ref a), some (.ref c), some (.ref l), some (.int (m : Int)), some (.int (i : Int)), some (.ref bl), some (.int ((ofB (fun k => Sb.at_ B' (blk m k i)) j : Nat) : Int)), x4, x5, none])
      ⟨Same.refl _, _, _, rfl⟩ (fun j σ H4 hj h => ?_) fun σ H4 h => ?_
    · obtain ⟨g4, y4, y5, rfl⟩ := h
      have ej : (0 : Int) + (j : Int) = ((j : Nat) : Int) := Int.zero_add _
      rw [ej]
      have kb4 := g4 _ _ kb3
      refine ⟨_, rfl, (m : Int), rfl, by omega, by omega, fun D hD => ?_⟩
      have jm8 : j * m ≤ 64 := Nat.le_trans (Nat.mul_le_mul (show j ≤ 8 by omega) l2) (by decide)
      refine lc_range (lo := 0) (n := m) (fun s H5 => Same H4 H5 ∧ H5 D = some (.lst (((List.range s).map fun k => ((i / 2 ^ (j * m) / 2 ^ k % 2 * 2 ^ k : Nat) : Int)).map V.int)))
        ⟨sNew hD, upd_same⟩ (fun s H5 hs h2 => ?_) fun H5 h2 => ?_
      · obtain ⟨g5, kD⟩ := h2
        have es : (0 : Int) + (s : Int) = ((s : Nat) : Int) := Int.zero_add _
        rw [es]
        have ejm : (j : Int) * (m : Int) + (s : Int) = ((j * m + s : Nat) : Int) := by rw [Int.natCast_add, Int.natCast_mul]
        have hx : j * m + s < n * m := by
          have z := Nat.mul_le_mul_right m (show j + 1 ≤ n from hj)
          rw [Nat.add_mul, Nat.one_mul] at z
          omega
        have eb : ((bitsI i (n * m)).map V.int)[j * m + s]? = some (.int ((i / 2 ^ (j * m) / 2 ^ s % 2 : Nat) : Int)) := by
          unfold bitsI
          rw [List.getElem?_map, List.getElem?_map, List.getElem?_range hx, Nat.div_div_eq_div_mul, ← Nat.pow_add]
          rfl
        have m2 := Nat.mod_lt (i / 2 ^ (j * m) / 2 ^ s) (show 0 < 2 by decide)
        obtain ⟨bt, hbt⟩ : ∃ bt, bt = i / 2 ^ (j * m) / 2 ^ s % 2 := ⟨_, rfl⟩
        rw [← hbt] at eb m2
        refine ⟨rfl, yes ?_⟩
        refine ⟨_, rfl, _, rfl, _, rfl, _, _, rfl, rfl, .inl ⟨by omega, by omega⟩, _, rfl, _, _, rfl, rfl, bl, _, _, _, rfl, rfl, SqL.of (g5 _ _ kb4), (by rw [ejm]; exact atI_nat eb), _, rfl, s, rfl, by omega, ?_⟩
        refine ⟨_, _, rfl, rfl, .inl ⟨by omega, by omega⟩, ?_⟩
        refine ⟨_, kD, szl (by simp; omega), sUp g5 hD, ?_⟩
        rw [upd_same, rg_succ, List.map_append]
        show some (HO.lst (_ ++ [V.int ((bt : Int) * ((2 ^ s : Nat) : Int))])) = some (HO.lst (_ ++ [V.int ((i / 2 ^ (j * m) / 2 ^ s % 2 * 2 ^ s : Nat) : Int)]))
        rw [← hbt, Int.natCast_mul]
      · obtain ⟨g5, kD⟩ := h2
        refine ⟨D, _, rfl, SqL.of kD, ?_⟩
        have hs : ((List.range m).map fun k => ((i / 2 ^ (j * m) / 2 ^ k % 2 * 2 ^ k : Nat) : Int)).sum = ((blk m j i : Nat) : Int) := by
          rw [rg_sum (fun k => i / 2 ^ (j * m) / 2 ^ k % 2 * 2 ^ k) m, ofB_bit]
          rfl
        have hblk : blk m j i < B'.length := by rw [hB]; exact blk_lt m j i
        have gH5 := gH.trans (g4.trans g5)
        have b1 := b2n_le (Sb.at_ B' (blk m j i))
        have ev : ((ofB (fun k => Sb.at_ B' (blk m k i)) j : Nat) : Int) + (b2n (Sb.at_ B' (blk m j i)) : Int) * ((2 ^ j : Nat) : Int) = ((ofB (fun k => Sb.at_ B' (blk m k i)) (j + 1) : Nat) : Int) := by
          rw [← Int.natCast_mul, ← Int.natCast_add]
          rfl
        refine ⟨_, rfl, _, rfl, c, _, _, _, rfl, rfl, SqT.of (gH5 _ _ hc), rfl, _, rfl, d, _, _, _, rfl, rfl, SqT.of (gH5 _ _ hd), (by rw [hs]; exact atI_nat (zo_at hblk)), _, rfl, j, rfl, by omega, _, _, rfl, rfl, .inl ⟨by omega, by omega⟩, _, _, rfl, rfl, g4.trans g5, _, _, by rw [← ev] <;> rfl⟩
    · obtain ⟨g4, y4, y5, rfl⟩ := h
      have gH4 := gH.trans g4
      have kl4 := g4 _ _ kl3
      have ht2 : tot n m (Sb.at_ B') i < A'.length := by rw [hA]; exact tot_lt _ _ _ _
      refine ⟨_, rfl, .inl ⟨rfl, _, SqL.of kl4⟩, _, rfl, a, _, _, _, rfl, rfl, SqT.of (gH4 _ _ ha), rfl, _, rfl, b, _, _, _, rfl, rfl, SqT.of (gH4 _ _ hb), atI_nat (zo_at ht2), ?_⟩
      refine ⟨l, _, _, rfl, rfl, kl4, szl (by simp; omega), sUp gH4 hl, ?_, _, _, _, _, _, rfl⟩
      rw [upd_same, rg_succ, List.map_append]
      rfl
  · obtain ⟨g, kl, x1, x2, x3, x4, x5, rfl⟩ := h
    refine ⟨_, rfl, l, _, rfl, .inl ⟨SqL.of kl, fun r1 hr1 => ?_⟩⟩
    refine q _ _ (g.trans (sNew hr1)) (Tp.ints ?_)
    rw [upd_same]
    unfold tin zo
    rw [List.map_map (g := fun b => ((b2n b : Nat) : Int))]
    rfl
end
end Sb


namespace Sb
open PySem PySem.Spec
open PyProof.Rows L2
section
variable {P : Program} {w : World} {K : PySem.W.Frag} {mg : Str → Option Value} {base : Heap}

def limI (n : Nat) : Int := if (if (8 : Int) / (n : Int) < 4 then (8 : Int) / (n : Int) else 4) > 1 then (if (8 : Int) / (n : Int) < 4 then (8 : Int) / (n : Int) else 4) else 1
theorem limI_ok {n : Nat} (h1 : 1 ≤ n) (h4 : n ≤ 4) : 1 ≤ limI n ∧ limI n ≤ 4 ∧ (n : Int) * limI n ≤ 8 := by
  have h : n = 1 ∨ n = 2 ∨ n = 3 ∨ n = 4 := by omega
  rcases h with rfl | rfl | rfl | rfl <;> decide
theorem Dr.two {H : Hp} {d c l : Addr} {N : Nat} (h : Dr H d c l N) {p : Addr} {o : HO} (hp : H p = none) : Dr (upd H p o) d c l N := h.put (h.out hp)
abbrev n_law_tables : List Str := ["_law_state", "_law_most", "_law_count", "_law_size"]
theorem sc_law_tables : FnScope n_law_tables ["_law_state", "_law_most"] (defScope s_law_tables) := ⟨rfl, rfl, rfl, by decide +kernel, rfl, by decide +kernel, by decide +kernel⟩
def spTabs : Sp := fun vs H Q _ => ∃ (d c l : Addr) (N : Nat), vs = [.ref d, .int 8] ∧ Dr H d c l N ∧ N + 1000 < 500000000000000000 ∧
  ∀ p u v n m A B H', Dr H' d c l (N + 1000) → Kp d l H H' → H' p = some (.tup [u, v]) → Two H' u v n A m B → n ≤ 4 → m ≤ 4 → Q (.ref p) H'
theorem ok_law_tables (T : Top K mg) : Ok P w K mg base 4 "_law_tables" ["_law_state", "_law_most"] spTabs := by
  have G_law_draw := ok_law_draw (P := P) (w := w) (base := base) T
  have G_law_worths := ok_law_worths (P := P) (w := w) (base := base) T
  refine mk (T.at_ (st := s_law_tables) 48) sc_law_tables (fun _ _ _ _ _ _ us hl => match us, hl with | [_, _], _ => rfl) (fun vs H Q E h => ?_) fun cdv A outer s H vs Q E hr h => ?_
  · obtain ⟨d, c, l, N, rfl, _⟩ := h
    rfl
  obtain ⟨d, c, l, N, rfl, hd, hN, q⟩ := h
  refine ⟨_, pss_cons (ps_set (i := 2) sc_law_tables.nd rfl (Or.inl rfl) (pe_op op_add pe_int (pc G_law_draw hr (pa_cons (pv 0) (pa_cons pe_int pa_nil)))))
    <| pss_cons (ps_set (i := 3) sc_law_tables.nd rfl (Or.inl rfl) (pe_op op_add pe_int (pc G_law_draw hr (pa_cons (pv 0) (pa_cons (pMax T.max pe_int (pMin T.min pe_int (pe_op op_fdiv (pv 1) (pv 2)))) pa_nil)))))
    <| pss_one (ps_ret (pe_tup (pa_cons (pe_tup (pa_cons (pv 2) (pa_cons (pc G_law_worths hr (pa_cons (pv 0) (pa_cons (pv 2) pa_nil))) pa_nil))) (pa_cons (pe_tup (pa_cons (pv 3) (pa_cons (pc G_law_worths hr (pa_cons (pv 0) (pa_cons (pv 3) pa_nil))) pa_nil))) pa_nil)))), ?_⟩
  refine ⟨_, rfl, d, c, l, N, 4, rfl, hd, by omega, by decide, by decide, fun r1 H1 a0 a1 d1 k1 => ?_⟩
  obtain ⟨n0, rfl⟩ := Int.eq_ofNat_of_zero_le a0
  have e1 : (1 : Int) + (n0 : Int) = ((1 + n0 : Nat) : Int) := by omega
  refine ⟨_, _, rfl, rfl, ?_⟩
  generalize hn : 1 + n0 = n at e1
  have n4 : n ≤ 4 := by omega
  have n1 : 1 ≤ n := by omega
  simp only [e1]
  obtain ⟨lm1, lm4, lmn⟩ := limI_ok n1 n4
  refine ⟨_, rfl, _, rfl, _, rfl, _, _, rfl, rfl, ⟨by omega, by omega⟩, _, _, rfl, _, _, rfl, d, c, l, N + 1, limI n, rfl, d1, by omega, lm1, by omega, fun r2 H2 b0 b1 d2 k2 => ?_⟩
  obtain ⟨m0, rfl⟩ := Int.eq_ofNat_of_zero_le b0
  have e2 : (1 : Int) + (m0 : Int) = ((1 + m0 : Nat) : Int) := by omega
  refine ⟨_, _, rfl, rfl, ?_⟩
  generalize hm : 1 + m0 = m at e2
  have m4 : m ≤ 4 := by omega
  have m1 : 1 ≤ m := by omega
  have nm : n * m ≤ 8 := by
    have z1 : (m : Int) ≤ limI n := by omega
    have z2 : (n : Int) * (m : Int) ≤ (n : Int) * limI n := Int.mul_le_mul_of_nonneg_left z1 (by omega)
    have z3 : ((n * m : Nat) : Int) = (n : Int) * (m : Int) := Int.natCast_mul n m
    omega
  simp only [e2]
  have pn : 2 ^ n ≤ 16 := Nat.le_trans (Nat.pow_le_pow_right (by decide) n4) (by decide)
  have pm : 2 ^ m ≤ 16 := Nat.le_trans (Nat.pow_le_pow_right (by decide) m4) (by decide)
  refine ⟨_, rfl, _, rfl, _, rfl, d, c, l, N + 2, n, rfl, by omega, d2, by omega, fun A1 p1 H3 hA d3 k3 h3 => ?_⟩
  refine ⟨sz (by show 2 ≤ 100000; decide), fun p2 hp2 => ?_⟩
  have s2 := sNew (o := .tup [.int (n : Int), .ref p1]) hp2
  have d4 := d3.two (o := .tup [.int (n : Int), .ref p1]) hp2
  have h4 : (upd H3 p2 (.tup [.int (n : Int), .ref p1])) p2 = some (.tup [.int (n : Int), .ref p1]) := upd_same
  have h41 := s2 _ _ h3
  generalize upd H3 p2 (.tup [.int (n : Int), .ref p1]) = H4 at s2 d4 h4 h41
  refine ⟨_, rfl, _, rfl, _, rfl, d, c, l, N + 2 + 2 ^ n, m, rfl, by omega, d4, by omega, fun B1 p3 H5 hB d5 k5 h5 => ?_⟩
  refine ⟨sz (by show 2 ≤ 100000; decide), fun p4 hp4 => ?_⟩
  have s4 := sNew (o := .tup [.int (m : Int), .ref p3]) hp4
  have d6 := d5.two (o := .tup [.int (m : Int), .ref p3]) hp4
  have h6 : (upd H5 p4 (.tup [.int (m : Int), .ref p3])) p4 = some (.tup [.int (m : Int), .ref p3]) := upd_same
  have h63 := s4 _ _ h5
  have h62 := s4 _ _ (d4.tup k5 h4)
  have h61 := s4 _ _ (d4.tup k5 h41)
  generalize upd H5 p4 (.tup [.int (m : Int), .ref p3]) = H6 at s4 d6 h6 h63 h62 h61
  refine ⟨sz (by show 2 ≤ 100000; decide), fun p5 hp5 => ?_⟩
  have s5 := sNew (o := .tup [.ref p2, .ref p4]) hp5
  exact q p5 (.ref p2) (.ref p4) n m A1 B1 _ ((d6.two hp5).more (by omega)) (k1.trans (k2.trans (k3.trans ((kp s2).trans (k5.trans ((kp s4).trans (kp s5))))))) upd_same
    ⟨Tp.tab (s5 _ _ h62) (s5 _ _ h61), Tp.tab (s5 _ _ h6) (s5 _ _ h63), n1, m1, nm, hA, hB⟩ n4 m4

theorem iteNN {c A B : Prop} [Decidable c] (hc : ¬ c) (h : A) : if (!decide c) = true then A else B := by
  rw [decide_eq_false hc]
  exact iteT h
/-- what is split: the near rows or the far ones -/
def Whl (near far : List Nat) (a b : Addr) (f : Bool) (wa : Addr) (W : List Nat) : Prop := (f = true ∧ wa = a ∧ W = near) ∨ (f = false ∧ wa = b ∧ W = far)
theorem lft_snoc {ys xs : List Nat} {r : Nat} : lft ys (xs ++ [r]) = lft ys xs ++ (if r ∈ ys then [] else [r]) := by
  unfold lft
  rw [List.filter_append, List.filter_cons]
  by_cases z : r ∈ ys
  · rw [decide_eq_true z, if_pos z]
    rfl
  · rw [decide_eq_false z, if_neg z]
    rfl
theorem cut_one {x : Nat} {W : List Nat} : cutV ((nats (x :: W)).map V.int) none (some 1) = (nats [x]).map V.int := by
  have z : HT.sIx ((nats (x :: W)).map V.int).length ((nats (x :: W)).map V.int).length (some 1) = 1 := by
    rw [nats_len]
    unfold HT.sIx
    simp
  unfold cutV
  rw [z]
  rfl
abbrev n_law_any_talk : List Str := ["_law_state", "_law_asked_so", "_law_near", "_law_far", "_law_one", "_law_first", "_law_whole", "_law_left", "_law_rest", "_law_told_so", "_law_other", "_law_line"]
theorem sc_law_any_talk : FnScope n_law_any_talk ["_law_state", "_law_asked_so", "_law_near", "_law_far"] (defScope s_law_any_talk) := ⟨rfl, rfl, rfl, by decide +kernel, rfl, by decide +kernel, by decide +kernel⟩
def ac : Nat → Nat
  | 0 => 0
  | k + 1 => 20 + 2 * ac k
def spAny (k : Nat) : Sp := fun vs H Q _ => ∃ (d c l a b : Addr) (N n : Nat) (ys ns : List Int) (near far : List Nat) (v : V), vs = [.ref d, v, .ref a, .ref b] ∧ Dr H d c l N ∧ N + ac k < 500000000000000000 ∧ n ≤ 8 ∧ Tp H v (dQ n ys ns) ∧
  H a = some (.tup ((nats near).map V.int)) ∧ H b = some (.tup ((nats far).map V.int)) ∧ Rows n near far ∧ near.length + far.length ≤ k ∧ near.length + far.length ≤ 16 ∧
  ∀ t r H', Tells n (tfm t) near far → Dr H' d c l (N + ac k) → Kp d l H H' → Tp H' r (dTk t) → Q r H'
theorem ok_law_any_talk (T : Top K mg) : ∀ k : Nat, Ok P w K mg base (k + 5) "_law_any_talk" ["_law_state", "_law_asked_so", "_law_near", "_law_far"] (spAny k)
  | 0 => (Ok.never (T.at_ (st := s_law_any_talk) 46) (fun _ _ _ _ _ _ us hl => match us, hl with | [_, _, _, _], _ => rfl) (fun vs H Q E h => by
      obtain ⟨d, c, l, a, b, N, n, ys, ns, near, far, v, _, _, _, _, _, _, _, R, h, _⟩ := h
      have := List.length_pos_iff.mpr R.n1
      omega)).mono (Nat.zero_le _)
  | k + 1 => by
    have G_law_any_talk := ok_law_any_talk T k
    have G_law_first_sign := ok_law_first_sign (P := P) (w := w) (base := base) T
    have G_law_draw := ok_law_draw (P := P) (w := w) (base := base) T
    have G_law_of := ok_law_of (P := P) (w := w) (base := base) T
    have G_law_part := ok_law_part (P := P) (w := w) (base := base) T
    have G_law_parted := ok_law_parted (P := P) (w := w) (base := base) T
    refine mk (T.at_ (st := s_law_any_talk) 46) sc_law_any_talk (fun _ _ _ _ _ _ us hl => match us, hl with | [_, _, _, _], _ => rfl) (fun vs H Q E h => ?_) fun cdv A outer s H vs Q E hr h => ?_
    · obtain ⟨d, c, l, a, b, N, n, ys, ns, near, far, v, rfl, _⟩ := h
      rfl
    obtain ⟨d, c, l, a, b, N, n, yS, nS, near, far, v, rfl, hd, hN, n8, hv, ha, hb, Rw, hk, h16, q⟩ := h
    obtain ⟨qa, q1, q2, q3, q4, rfl, hqa, t1, t2, t3, t4⟩ := id hv.four
    obtain ⟨sa, xs, rfl, hsa, hxs⟩ := Tp.tupE t2
    have lx := dSs_length hxs
    have la := nats_len near
    have lb := nats_len far
    have hac : ac (k + 1) = 20 + 2 * ac k := rfl
    have pn := List.length_pos_iff.mpr Rw.n1
    have pf := List.length_pos_iff.mpr Rw.f1
    refine ⟨_, pss_cons (ps_set (i := 4) sc_law_any_talk.nd rfl (Or.inl rfl) (pc G_law_first_sign hr (pa_cons (pv 1) (pa_cons (pv 2) (pa_cons (pv 3) pa_nil)))))
    <| pss_cons (ps_if (PW.pt (pw_and (pt_cmpR op_notN (pv 4) pe_non (nomark _)) (pw_and1 (PW.pt (pw_or (pt_cmpR op_lt (pe_op op_add (pLen K T.len (pv 2)) (pLen K T.len (pv 3))) pe_int (nomark _)) (pw_or1 (pt_cmpR op_gt (pc G_law_draw hr (pa_cons (pv 0) (pa_cons pe_int pa_nil))) pe_int (nomark _)))))))) (pss_one (ps_ret (pc G_law_of hr (pa_cons (pv 0) (pa_cons (pe_lc (own := [("_law_other", 10)]) (g := gName 10) rfl sc_law_any_talk.nd (pi_tup (pIx K (pv 1) pe_int)) (blkOk_by (N := n_law_any_talk) (sc := defScope s_law_any_talk) (by decide +kernel)) (fun _ _ _ _ _ => (pg_name (i := 10) sc_law_any_talk.nd rfl (Or.inl rfl))) (fun _ _ _ _ _ => (pts_one (pt_val (pc G_law_parted hr (pa_cons (pv 10) (pa_cons (pv 2) (pa_cons (pv 3) pa_nil))))))) (fun _ _ _ _ _ => (pv 10))) pa_nil))))) pss_nil)
    <| pss_cons (ps_set (i := 5) sc_law_any_talk.nd rfl (Or.inl rfl) (pe_or (pe_cmpR op_lt (pLen K T.len (pv 3)) pe_int (nomark _)) (pe_one (pe_and (pe_cmpR op_gt (pLen K T.len (pv 2)) pe_int (nomark _)) (pe_one (pe_cmpR op_eq (pc G_law_draw hr (pa_cons (pv 0) (pa_cons pe_int pa_nil))) pe_int (nomark _)))))))
    <| pss_cons (ps_set (i := 6) sc_law_any_talk.nd rfl (Or.inl rfl) (pe_ifExp (pt_val (pv 5)) (pv 2) (pv 3)))
    <| pss_cons (ps_set (i := 7) sc_law_any_talk.nd rfl (Or.inr rfl) (pc G_law_part hr (pa_cons (pv 0) (pa_cons (pv 6) pa_nil))))
    <| pss_cons (ps_if (PW.pt (pw_or (pt_cmpR (opEd K hr) (pv 7) (pe_tup pa_nil) (nomark _)) (pw_or1 (pt_cmpR (opEd K hr) (pv 7) (pv 6) (nomark _))))) (pss_one (ps_set (i := 7) sc_law_any_talk.nd rfl (Or.inr rfl) (pe_slice sl_tup (pv 6) po_none (po_some pe_int)))) pss_nil)
    <| pss_cons (ps_set (i := 8) sc_law_any_talk.nd rfl (Or.inl rfl) (pTup K T.tuple (pe_lc (own := [("_law_line", 11)]) (g := gName 11) rfl sc_law_any_talk.nd (pi_tup (pv 6)) (blkOk_by (N := n_law_any_talk) (sc := defScope s_law_any_talk) (by decide +kernel)) (fun _ _ _ _ _ => (pg_name (i := 11) sc_law_any_talk.nd rfl (Or.inl rfl))) (fun _ _ _ _ _ => (pts_one (pt_cmpR (opNi K) (pv 11) (pv 7) (by rfl)))) (fun _ _ _ _ _ => (pv 11)))))
    <| pss_cons (ps_if (pt_val (pv 5)) (pss_one (ps_ret (pe_tup (pa_cons pe_str (pa_cons (pv 7) (pa_cons (pc G_law_any_talk hr (pa_cons (pv 0) (pa_cons (pv 1) (pa_cons (pv 7) (pa_cons (pv 3) pa_nil))))) (pa_cons (pc G_law_any_talk hr (pa_cons (pv 0) (pa_cons (pv 1) (pa_cons (pv 8) (pa_cons (pv 3) pa_nil))))) pa_nil))))))) pss_nil)
    <| pss_cons (ps_set (i := 9) sc_law_any_talk.nd rfl (Or.inl rfl) (pc G_law_any_talk hr (pa_cons (pv 0) (pa_cons (pv 1) (pa_cons (pv 2) (pa_cons (pv 7) pa_nil))))))
    <| pss_one (ps_ret (pe_tup (pa_cons pe_str (pa_cons (pv 7) (pa_cons (pv 9) (pa_cons (pc G_law_any_talk hr (pa_cons (pv 0) (pa_cons (pv 1) (pa_cons (pv 2) (pa_cons (pv 8) pa_nil))))) pa_nil)))))), ?_⟩
    refine seqW (P := fun σ H1 => Same H H1 ∧ ∃ x, σ = [some (.ref d), some (.ref qa), some (.ref a), some (.ref b), some x, none, none, none, none, none, none, none] ∧
      ((x = .non ∧ ∀ i b, i < n → pard i b near far = false) ∨ ∃ i bb, i < n ∧ Tp H1 x (dF (.sg i bb)) ∧ pard i bb near far = true)) (fun R hR => ?_) fun σ H1 h => ?_
    · exact ⟨_, rfl, _, rfl, _, rfl, n, yS, nS, [], [], near, far, .ref qa, a, b, rfl, n8, hv, ha, hb, by omega, fun H1 g1 no => hR _ _ ⟨g1, _, rfl, .inl ⟨rfl, no⟩⟩, fun i bb x H1 g1 hi hx pd => hR _ _ ⟨g1, _, rfl, .inr ⟨i, bb, hi, hx, pd⟩⟩⟩
    obtain ⟨g1, x, rfl, hx⟩ := h
    have d1 := hd.same g1
    -- one sign that parts the rows
    refine seqW (P := fun σ H2 => σ = [some (.ref d), some (.ref qa), some (.ref a), some (.ref b), some x, none, none, none, none, none, none, none] ∧ Dr H2 d c l (N + 1) ∧ Kp d l H H2 ∧ 3 ≤ near.length + far.length)
      (fun R hR => ifW (P1 := fun H2 => (∃ i bb, i < n ∧ pard i bb near far = true) ∧ Dr H2 d c l (N + 1) ∧ Kp d l H H2) (P0 := fun H2 => Dr H2 d c l (N + 1) ∧ Kp d l H H2 ∧ 3 ≤ near.length + far.length) (fun Z z1 z0 => ?_) (fun H2 h => ?_) fun H2 h => hR _ _ ⟨rfl, h⟩) fun σ H2 h => ?_
    · refine ⟨_, rfl, rfl, _, rfl, ?_⟩
      rcases hx with ⟨rfl, no⟩ | ⟨i, bb, hi, tx, pd⟩
      · exact iteNS rfl (z0 H1 ⟨d1.more (Nat.le_succ N), kp g1, Rw.three no⟩)
      · refine iteNN (fun z => by rw [z] at tx; cases tx) ?_
        refine ⟨_, rfl, a, _, rfl, .inr (SqT.of (g1 _ _ ha)), _, rfl, b, _, rfl, .inr (SqT.of (g1 _ _ hb)), _, _, rfl, rfl, _, _, rfl, rfl, _, rfl, ite2 (fun _ => z1 H1 ⟨⟨i, bb, hi, pd⟩, d1.more (Nat.le_succ N), kp g1⟩) fun hge => ?_⟩
        have ge3 : 3 ≤ near.length + far.length := by
          rw [la, lb, decide_eq_true_eq] at hge
          omega
        refine ⟨_, rfl, d, c, l, N, 4, rfl, d1, by omega, by decide, by decide, fun r H2 r0 r1 d2 k2 => ⟨_, _, rfl, rfl, _, rfl, ?_⟩⟩
        cases decide (0 < r) with
        | true => exact z1 H2 ⟨⟨i, bb, hi, pd⟩, d2, (kp g1).trans k2⟩
        | false => exact z0 H2 ⟨d2, (kp g1).trans k2, ge3⟩
    · obtain ⟨⟨i, bb, hi, pd⟩, d2, k2⟩ := h
      refine ⟨_, rfl, _, rfl, qa, _, _, _, rfl, rfl, SqT.of (hd.tup k2 hqa), rfl, sa, rfl, ⟨_, SqT.of (hd.tup k2 hsa)⟩, fun D hD => ?_⟩
      refine lc_tup (fun j H3 => Same H2 H3 ∧ ∃ zs : List V, H3 D = some (.lst zs) ∧ zs.length ≤ j ∧ (∀ y, y ∈ zs → ∃ i bb, i < n ∧ pard i bb near far = true ∧ Tp H2 y (dF (.sg i bb))) ∧ ∀ k, k < j → pard (k / 2) (decide (k % 2 = 1)) near far = true → zs ≠ [])
        ⟨sNew hD, [], upd_same, Nat.le_refl _, fun y hy => (by cases hy), fun k hk => absurd hk (Nat.not_lt_zero k)⟩ (fun j H3 _ h => SqT.of (h.1 _ _ (hd.tup k2 hsa))) (fun j y H3 e h => ?_) fun H3 h => ?_
      · obtain ⟨g3, zs, hz, lz, az, fz⟩ := h
        obtain ⟨hj2, ty⟩ := sgs_pick hxs e
        have hj : j < xs.length := (List.getElem?_eq_some_iff.mp e).1
        have ty2 := tp (hd.kt k2) ty
        refine ⟨rfl, _, rfl, _, rfl, _, rfl, j / 2, decide (j % 2 = 1), y, a, b, near, far, rfl, tpS g3 ty2, by omega, g3 _ _ (hd.tup k2 ha), g3 _ _ (hd.tup k2 hb), by omega, fun H4 g4 => ⟨_, rfl, ?_⟩⟩
        have hz4 := g4 _ _ hz
        cases z : pard (j / 2) (decide (j % 2 = 1)) near far with
        | true =>
          refine iteT ⟨_, rfl, zs, hz4, szl (by omega), sUp (g3.trans g4) hD, zs ++ [y], upd_same, by rw [List.length_append]; exact Nat.add_le_add_right lz 1, fun u hu => ?_, fun k hk _ z => by simp at z⟩
          rcases List.mem_append.mp hu with hu | hu
          · exact az u hu
          · rw [List.mem_singleton.mp hu]
            exact ⟨_, _, hj2, z, ty2⟩
        | false =>
          refine iteF ⟨g3.trans g4, zs, hz4, by omega, az, fun k hk hp => ?_⟩
          by_cases ek : k = j
          · rw [ek, z] at hp
            cases hp
          · exact fz k (by omega) hp
      · obtain ⟨g3, zs, hz, lz, az, fz⟩ := h
        have ne : zs ≠ [] := by
          refine fz (2 * i + b2n bb) (by have := b2n_le bb; omega) ?_
          have e1 : (2 * i + b2n bb) / 2 = i := by have := b2n_le bb; omega
          have e2 : decide ((2 * i + b2n bb) % 2 = 1) = bb := by
            cases bb
            · exact decide_eq_false (by show ¬ (2 * i + 0) % 2 = 1; omega)
            · exact decide_eq_true (by show (2 * i + 1) % 2 = 1; omega)
          rw [e1, e2]
          exact pd
        have oD := d2.out hD
        have d3 := d2.same g3
        refine ⟨d, c, l, D, N + 1, zs, rfl, d3, by omega, List.length_pos_iff.mpr ne, by omega, fun H' k3 => .inl (SqL.of (k3.obj hz oD.1 oD.2.2)), fun i x H' e d4 k4 => ?_⟩
        obtain ⟨i, bb, hi, pd, tx⟩ := az x (List.mem_of_getElem? e)
        exact q (.sg i bb) x H' (pard_tells pd hi Rw.n1 Rw.f1) (d4.more (by omega)) (k2.trans ((kp g3).trans k4)) (tp (d3.kt k4) (tpS g3 tx))
    obtain ⟨rfl, d2, k2, ge3⟩ := h
    -- the rows that are split
    refine seqW (P := fun σ H3 => (∃ f : Bool, σ = [some (.ref d), some (.ref qa), some (.ref a), some (.ref b), some x, some (.bl f), none, none, none, none, none, none] ∧ (f = true → 2 ≤ near.length) ∧ (f = false → 2 ≤ far.length)) ∧ Dr H3 d c l (N + 2) ∧ Kp d l H H3) (fun R hR => ?_) fun σ H3 h => ?_
    · refine ⟨_, rfl, b, _, rfl, .inr (SqT.of (hd.tup k2 hb)), _, _, rfl, rfl, _, rfl, ite2 (fun h1 => ?_) fun h1 => ?_⟩
      · refine hR _ _ ⟨⟨true, rfl, fun _ => ?_, fun z => by cases z⟩, d2.more (by omega), k2⟩
        rw [lb, decide_eq_true_eq] at h1
        omega
      · have f2 : 2 ≤ far.length := by
          rw [lb, decide_eq_true_eq] at h1
          omega
        refine ⟨_, rfl, a, _, rfl, .inr (SqT.of (hd.tup k2 ha)), _, _, rfl, rfl, _, rfl, ite2 (fun h2 => ?_) fun h2 => ?_⟩
        · refine ⟨_, rfl, d, c, l, N + 1, 2, rfl, d2, by omega, by decide, by decide, fun r H4 r0 r1 d4 k4 => ⟨rfl, ?_⟩⟩
          refine hR _ _ ⟨⟨_, rfl, fun _ => ?_, fun _ => f2⟩, d4, k2.trans k4⟩
          rw [la, decide_eq_true_eq] at h2
          omega
        · exact hR _ _ ⟨⟨false, rfl, fun z => (by cases z), fun _ => f2⟩, d2.more (by omega), k2⟩
    obtain ⟨⟨f, rfl, f1, f0⟩, d3, k3⟩ := h
    obtain ⟨wa, W, hw⟩ : ∃ wa W, Whl near far a b f wa W := by
      cases f with
      | true => exact ⟨a, near, .inl ⟨rfl, rfl, rfl⟩⟩
      | false => exact ⟨b, far, .inr ⟨rfl, rfl, rfl⟩⟩
    have hW : H wa = some (.tup ((nats W).map V.int)) := by
      rcases hw with ⟨_, rfl, rfl⟩ | ⟨_, rfl, rfl⟩
      · exact ha
      · exact hb
    have w2 : 2 ≤ W.length := by
      rcases hw with ⟨z, rfl, rfl⟩ | ⟨z, rfl, rfl⟩
      · exact f1 z
      · exact f0 z
    have w16 : W.length ≤ 16 := by
      rcases hw with ⟨z, rfl, rfl⟩ | ⟨z, rfl, rfl⟩ <;> omega
    have lW := nats_len W
    refine seqW (P := fun σ H4 => σ = [some (.ref d), some (.ref qa), some (.ref a), some (.ref b), some x, some (.bl f), some (.ref wa), none, none, none, none, none] ∧ Dr H4 d c l (N + 2) ∧ Kp d l H H4) (fun R hR => ?_) fun σ H4 h => ?_
    · refine ⟨_, rfl, f, rfl, ?_⟩
      rcases hw with ⟨rfl, rfl, rfl⟩ | ⟨rfl, rfl, rfl⟩
      · exact iteT ⟨_, rfl, hR _ _ ⟨rfl, d3, k3⟩⟩
      · exact iteF ⟨_, rfl, hR _ _ ⟨rfl, d3, k3⟩⟩
    obtain ⟨rfl, d4, k4⟩ := h
    refine seqW (P := fun σ H5 => (∃ p ys, σ = [some (.ref d), some (.ref qa), some (.ref a), some (.ref b), some x, some (.bl f), some (.ref wa), some (.ref p), none, none, none, none] ∧ List.Sublist ys W ∧ H5 p = some (.tup ((nats ys).map V.int))) ∧ Dr H5 d c l (N + 18) ∧ Kp d l H H5) (fun R hR => ?_) fun σ H5 h => ?_
    · exact ⟨_, rfl, _, rfl, d, c, l, wa, N + 2, W, rfl, d4, by omega, by omega, hd.tup k4 hW, fun ys p H' sy d5 k5 hp => hR _ _ ⟨⟨p, ys, rfl, sy, hp⟩, d5.more (by omega), k4.trans k5⟩⟩
    obtain ⟨⟨p, ys, rfl, sy, hp⟩, d5, k5⟩ := h
    refine seqW (P := fun σ H6 => (∃ p ys, σ = [some (.ref d), some (.ref qa), some (.ref a), some (.ref b), some x, some (.bl f), some (.ref wa), some (.ref p), none, none, none, none] ∧ Cut ys W ∧ H6 p = some (.tup ((nats ys).map V.int))) ∧ Dr H6 d c l (N + 18) ∧ Kp d l H H6)
      (fun R hR => ifW (P1 := fun H6 => Dr H6 d c l (N + 18) ∧ Kp d l H H6) (P0 := fun H6 => Cut ys W ∧ H6 p = some (.tup ((nats ys).map V.int)) ∧ Dr H6 d c l (N + 18) ∧ Kp d l H H6) (fun Z z1 z0 => ?_) (fun H6 h => ?_) fun H6 h => hR _ _ ⟨⟨p, ys, rfl, h.1, h.2.1⟩, h.2.2⟩) fun σ H6 h => ?_
    · refine ⟨_, rfl, sz (by show 0 ≤ 100000; decide), fun pe hpe => ?_⟩
      have s1 := sNew (o := .tup []) hpe
      have d51 := d5.two (o := .tup []) hpe
      have hp1 := s1 _ _ hp
      have hW1 := s1 _ _ (hd.tup k5 hW)
      refine ⟨dI (nats ys), dI [], dp (Tp.ints hp1), dp (Tp.ints (ns := []) upd_same), dI_shaped _, dI_shaped [], _, rfl, ?_⟩
      rw [eqv_dI]
      refine ite2 (fun _ => z1 _ ⟨d51, k5.trans (kp s1)⟩) fun e1 => ?_
      refine ⟨_, rfl, _, rfl, dI (nats ys), dI (nats W), dp (Tp.ints hp1), dp (Tp.ints hW1), dI_shaped _, dI_shaped _, _, rfl, ?_⟩
      rw [eqv_dI]
      by_cases e2 : nats ys = nats W
      · rw [decide_eq_true e2]
        exact z1 _ ⟨d51, k5.trans (kp s1)⟩
      · rw [decide_eq_false e2]
        refine z0 _ ⟨⟨sy, fun z => e1 (decide_eq_true (by rw [z]; rfl)), fun z => e2 (by rw [z])⟩, hp1, d51, k5.trans (kp s1)⟩
    · obtain ⟨d6, k6⟩ := h
      obtain ⟨w0, W0, eW⟩ := List.exists_cons_of_ne_nil (List.ne_nil_of_length_pos (show 0 < W.length by omega))
      refine ⟨_, rfl, _, rfl, wa, _, rfl, SqT.of (hd.tup k6 hW), ?_, fun p2 hp2 => ?_⟩
      · rw [lW]
        rintro ⟨_, z⟩
        have z2 : HT.sIx W.length W.length (some 1) = min 1 W.length := HT.sIx_nat W.length W.length 1
        omega
      · refine hR _ _ ⟨⟨p2, [w0], rfl, ⟨?_, fun z => (by cases z), fun z => ?_⟩, ?_⟩, d6.two hp2, k6.trans (kp (sNew hp2))⟩
        · rw [eW]
          exact List.Sublist.cons_cons _ (List.nil_sublist _)
        · rw [← z] at w2
          simp at w2
        · rw [upd_same, eW, cut_one]
    obtain ⟨⟨p, ys, rfl, cu, hp⟩, d6, k6⟩ := h
    have cl := cu.lt
    have cl2 := cu.lft_lt
    have lY := nats_len ys
    refine seqW (P := fun σ H7 => (∃ p2, σ = [some (.ref d), some (.ref qa), some (.ref a), some (.ref b), some x, some (.bl f), some (.ref wa), some (.ref p), some (.ref p2), none, none, none] ∧ H7 p = some (.tup ((nats ys).map V.int)) ∧ H7 p2 = some (.tup ((nats (lft ys W)).map V.int))) ∧ Dr H7 d c l (N + 18) ∧ Kp d l H H7) (fun R hR => ?_) fun σ H7 h => ?_
    · have hW6 := hd.tup k6 hW
      refine ⟨_, rfl, wa, rfl, ⟨_, SqT.of hW6⟩, fun D hD => lc_tup (fun j H8 => Same H6 H8 ∧ H8 D = some (.lst ((nats (lft ys (W.take j))).map V.int))) ⟨sNew hD, upd_same⟩ (fun j H8 _ h => SqT.of (h.1 _ _ hW6)) (fun j y H8 e h => ?_) fun H8 h => ?_⟩
      · obtain ⟨g8, kD⟩ := h
        obtain ⟨r, er, rfl⟩ := natsE e
        refine ⟨rfl, _, rfl, _, rfl, p, _, rfl, .inr (SqT.of (g8 _ _ hp)), rfl, flat_ints _, _, rfl, ?_⟩
        rw [in_nats]
        show if (!decide (r ∈ ys)) = true then _ else _
        by_cases z : r ∈ ys
        · rw [decide_eq_true z]
          refine iteF ⟨g8, ?_⟩
          rw [take_snoc er, lft_snoc, if_pos z, List.append_nil]
          exact kD
        · rw [decide_eq_false z]
          refine iteT ⟨_, rfl, _, kD, szl (by rw [nats_len]; unfold lft; have := List.length_filter_le (fun r => !decide (r ∈ ys)) (W.take j); rw [List.length_take] at this; omega), sUp g8 hD, ?_⟩
          rw [upd_same, take_snoc er, lft_snoc, if_neg z, nats_app]
          rfl
      · obtain ⟨g8, kD⟩ := h
        rw [lW, List.take_length] at kD
        exact ⟨D, _, rfl, .inl ⟨SqL.of kD, fun p2 hp2 => hR _ _ ⟨⟨p2, rfl, sNew hp2 _ _ (g8 _ _ hp), upd_same⟩, (d6.same g8).two hp2, k6.trans (kp (g8.trans (sNew hp2)))⟩⟩⟩
    obtain ⟨⟨p2, rfl, hp, hp2⟩, d7, k7⟩ := h
    refine ⟨_, rfl, f, rfl, ?_⟩
    rcases hw with ⟨rfl, rfl, rfl⟩ | ⟨rfl, rfl, rfl⟩
    · obtain ⟨R1, R2⟩ := Rw.left cu
      refine iteT ?_
      refine ⟨_, rfl, _, rfl, _, rfl, _, rfl, _, rfl, d, c, l, p, b, N + 18, n, yS, nS, ys, far, .ref qa, rfl, d7, by omega, n8, tp (hd.kt k7) hv, hp, hd.tup k7 hb, R1, by omega, by omega, fun u1 r1 H8 tl1 d8 k8 e1 => ?_⟩
      have k78 := k7.trans k8
      refine ⟨_, rfl, _, rfl, _, rfl, _, rfl, d, c, l, p2, b, N + 18 + ac k, n, yS, nS, lft ys W, far, .ref qa, rfl, d8, by omega, n8, tp (hd.kt k78) hv, d7.tup k8 hp2, hd.tup k78 hb, R2, by omega, by omega, fun u2 r2 H9 tl2 d9 k9 e2 => ?_⟩
      refine ⟨sz (by show 4 ≤ 100000; decide), fun p3 hp3 => ?_⟩
      have s3 := sNew (o := .tup [.str "yes", .ref p, r1, r2]) hp3
      exact q (.q true ys u1 u2) _ _ (Tells.left cu tl1 tl2) ((d9.two hp3).more (by omega)) (k78.trans (k9.trans (kp s3))) (.tup upd_same (.cons (.str _) (.cons (Tp.ints (s3 _ _ (d8.tup k9 (d7.tup k8 hp)))) (.cons (tpS s3 (tp (d8.kt k9) e1)) (.cons (tpS s3 e2) .nil)))))
    · obtain ⟨R1, R2⟩ := Rw.right cu
      refine iteF ?_
      refine ⟨_, rfl, _, rfl, _, rfl, _, rfl, d, c, l, a, p, N + 18, n, yS, nS, near, ys, .ref qa, rfl, d7, by omega, n8, tp (hd.kt k7) hv, hd.tup k7 ha, hp, R1, by omega, by omega, fun u1 r1 H8 tl1 d8 k8 e1 => ?_⟩
      have k78 := k7.trans k8
      refine ⟨_, rfl, _, rfl, _, rfl, _, rfl, _, rfl, _, rfl, d, c, l, a, p2, N + 18 + ac k, n, yS, nS, near, lft ys W, .ref qa, rfl, d8, by omega, n8, tp (hd.kt k78) hv, hd.tup k78 ha, d7.tup k8 hp2, R2, by omega, by omega, fun u2 r2 H9 tl2 d9 k9 e2 => ?_⟩
      refine ⟨sz (by show 4 ≤ 100000; decide), fun p3 hp3 => ?_⟩
      have s3 := sNew (o := .tup [.str "no", .ref p, r1, r2]) hp3
      exact q (.q false ys u1 u2) _ _ (Tells.right cu tl1 tl2) ((d9.two hp3).more (by omega)) (k78.trans (k9.trans (kp s3))) (.tup upd_same (.cons (.str _) (.cons (Tp.ints (s3 _ _ (d8.tup k9 (d7.tup k8 hp)))) (.cons (tpS s3 (tp (d8.kt k9) e1)) (.cons (tpS s3 e2) .nil)))))
end
end Sb


namespace Sb
open PySem PySem.Spec
open PyProof.Rows L2
section
variable {P : Program} {w : World} {K : PySem.W.Frag} {mg : Str → Option Value} {base : Heap}

theorem Fm.lvs_le : ∀ f : Fm, f.lvs ≤ 2 ^ f.dep
  | .sg _ _ => Nat.le_refl 1
  | .bin o a b => by
    have h1 := lvs_le a
    have h2 := lvs_le b
    have m1 : 2 ^ a.dep ≤ 2 ^ max a.dep b.dep := Nat.pow_le_pow_right (by decide) (Nat.le_max_left _ _)
    have m2 : 2 ^ b.dep ≤ 2 ^ max a.dep b.dep := Nat.pow_le_pow_right (by decide) (Nat.le_max_right _ _)
    show a.lvs + b.lvs ≤ 2 ^ (1 + max a.dep b.dep)
    rw [Nat.add_comm 1, Nat.pow_succ]
    omega
theorem iteDT {c A B : Prop} [Decidable c] (hc : c) (h : A) : if decide c = true then A else B := by
  rw [decide_eq_true hc]
  exact iteT h
theorem iteDF {c A B : Prop} [Decidable c] (hc : ¬ c) (h : B) : if decide c = true then A else B := by
  rw [decide_eq_false hc]
  exact iteF h
/-- the rows that are so, those that are not -/
def nearL (A : List Bool) : List Nat := (List.range A.length).filter fun k => Sb.at_ A k
def farL (A : List Bool) : List Nat := (List.range A.length).filter fun k => !Sb.at_ A k
theorem filter_two {α : Type} (p : α → Bool) : ∀ xs : List α, (xs.filter p).length + (xs.filter fun x => !p x).length = xs.length
  | [] => rfl
  | x :: r => by
    have ih := filter_two p r
    rw [List.filter_cons, List.filter_cons]
    cases p x with
    | true =>
      rw [if_pos rfl, if_neg (by decide)]
      simp only [List.length_cons]
      omega
    | false =>
      rw [if_neg (by decide), if_pos (show (!false) = true from rfl)]
      simp only [List.length_cons]
      omega
theorem nf_len (A : List Bool) : (nearL A).length + (farL A).length = A.length := by
  have z := filter_two (fun k => Sb.at_ A k) (List.range A.length)
  rw [List.length_range] at z
  exact z
theorem nearL_mem {A : List Bool} {k : Nat} : k ∈ nearL A ↔ k < A.length ∧ Sb.at_ A k = true := by
  unfold nearL
  rw [List.mem_filter, List.mem_range]
theorem farL_mem {A : List Bool} {k : Nat} : k ∈ farL A ↔ k < A.length ∧ Sb.at_ A k = false := by
  unfold farL
  rw [List.mem_filter, List.mem_range]
  simp
theorem rows_of {n : Nat} {A : List Bool} (hA : A.length = 2 ^ n) (h1 : nearL A ≠ []) (h2 : farL A ≠ []) : Rows n (nearL A) (farL A) := by
  refine ⟨h1, h2, List.Pairwise.filter _ List.nodup_range, List.Pairwise.filter _ List.nodup_range, fun r a b => ?_, fun r a => ?_, fun r a => ?_⟩
  · have x := (nearL_mem.mp a).2
    rw [(farL_mem.mp b).2] at x
    cases x
  · rw [← hA]
    exact (nearL_mem.mp a).1
  · rw [← hA]
    exact (farL_mem.mp a).1
theorem tells_tab {n : Nat} {A : List Bool} {f : Fm} (hA : A.length = 2 ^ n) (t : Tells n f (nearL A) (farL A)) {k : Nat} (hk : k < 2 ^ n) : f.so k = Sb.at_ A k := by
  cases z : Sb.at_ A k with
  | true => exact t.nr k (nearL_mem.mpr ⟨by omega, z⟩)
  | false => exact t.fr k (farL_mem.mpr ⟨by omega, z⟩)
theorem range_snoc_filter {p : Nat → Bool} {i : Nat} : (List.range (i + 1)).filter p = (List.range i).filter p ++ (if p i = true then [i] else []) := by
  rw [List.range_succ, List.filter_append, List.filter_cons]
  cases p i <;> rfl
theorem b2n_zero2 (b : Bool) : decide (V.int (b2n b : Int) = V.int 0) = !b := by cases b <;> decide

/-- a formula for the table, or none -/
def Told (H : Hp) (x : V) (n : Nat) (A : List Bool) : Prop := x = .non ∨ ∃ f, Fm.ok n f ∧ f.dep ≤ 14 ∧ (∀ k, k < 2 ^ n → f.so k = Sb.at_ A k) ∧ Tp H x (dF f)
theorem Told.mono {H H' : Hp} {x : V} {n : Nat} {A : List Bool} (k : KT H H') (h : Told H x n A) : Told H' x n A := by
  rcases h with h | ⟨f, h1, h2, h3, h4⟩
  · exact .inl h
  · exact .inr ⟨f, h1, h2, h3, tp k h4⟩
abbrev n_law_told : List Str := ["_law_state", "_law_table_so", "_law_count", "_law_worths_so", "_law_near", "_law_far", "_law_asked_so", "_law_line", "_law_item"]
theorem sc_law_told : FnScope n_law_told ["_law_state", "_law_table_so"] (defScope s_law_told) := ⟨rfl, rfl, rfl, by decide +kernel, rfl, by decide +kernel, by decide +kernel⟩
def spTold : Sp := fun vs H Q _ => ∃ (d c l : Addr) (N n : Nat) (A : List Bool) (v : V), vs = [.ref d, v] ∧ Dr H d c l N ∧ N + 1400000 < 500000000000000000 ∧ Tp H v (dT n A) ∧ 1 ≤ n ∧ n ≤ 4 ∧ A.length = 2 ^ n ∧
  ∀ x H', Dr H' d c l (N + 1400000) → Kp d l H H' → Told H' x n A → Q x H'
theorem ok_law_told (T : Top K mg) : Ok P w K mg base 22 "_law_told" ["_law_state", "_law_table_so"] spTold := by
  have G_law_all_signs := ok_law_all_signs (P := P) (w := w) (base := base) T
  have G_law_any_talk := ok_law_any_talk (P := P) (w := w) (base := base) T 16
  have G_law_as_formula := ok_law_as_formula (P := P) (w := w) (base := base) T 15
  refine mk (T.at_ (st := s_law_told) 52) sc_law_told (fun _ _ _ _ _ _ us hl => match us, hl with | [_, _], _ => rfl) (fun vs H Q E h => ?_) fun cdv A outer s H vs Q E hr h => ?_
  · obtain ⟨d, c, l, N, n, A, v, rfl, _⟩ := h
    rfl
  obtain ⟨d, c, l, N, n, A', v, rfl, hd, hN, hv, n1, n4, hA, q⟩ := h
  obtain ⟨a, b, rfl, ha, hb⟩ := hv.tabE
  have pw : 2 ^ n ≤ 16 := Nat.le_trans (Nat.pow_le_pow_right (by decide) n4) (by decide)
  have lA := zo_len A'
  have ac16 : ac 16 = 1310700 := by decide
  refine ⟨_, pss_cons (ps_asg (pv 1) (pg_tup rfl (pgs_cons (pg_name (i := 2) sc_law_told.nd rfl (Or.inl rfl)) (pgs_cons (pg_name (i := 3) sc_law_told.nd rfl (Or.inl rfl)) pgs_nil))))
    <| pss_cons (ps_set (i := 4) sc_law_told.nd rfl (Or.inl rfl) (pTup K T.tuple (pe_lc (own := [("_law_line", 7), ("_law_item", 8)]) (g := gTup K 2 (gCons (gName 7) (gCons (gName 8) (gNil)))) rfl sc_law_told.nd (pi_enT T.enumerate (pa_cons (pv 3) pa_nil)) (blkOk_by (N := n_law_told) (sc := defScope s_law_told) (by decide +kernel)) (fun _ _ _ _ _ => (pg_tup rfl (pgs_cons (pg_name (i := 7) sc_law_told.nd rfl (Or.inl rfl)) (pgs_cons (pg_name (i := 8) sc_law_told.nd rfl (Or.inl rfl)) pgs_nil)))) (fun _ _ _ _ _ => (pts_one (pt_cmpR op_eq (pv 8) pe_int (nomark _)))) (fun _ _ _ _ _ => (pv 7)))))
    <| pss_cons (ps_set (i := 5) sc_law_told.nd rfl (Or.inl rfl) (pTup K T.tuple (pe_lc (own := [("_law_line", 7), ("_law_item", 8)]) (g := gTup K 2 (gCons (gName 7) (gCons (gName 8) (gNil)))) rfl sc_law_told.nd (pi_enT T.enumerate (pa_cons (pv 3) pa_nil)) (blkOk_by (N := n_law_told) (sc := defScope s_law_told) (by decide +kernel)) (fun _ _ _ _ _ => (pg_tup rfl (pgs_cons (pg_name (i := 7) sc_law_told.nd rfl (Or.inl rfl)) (pgs_cons (pg_name (i := 8) sc_law_told.nd rfl (Or.inl rfl)) pgs_nil)))) (fun _ _ _ _ _ => (pts_one (pt_cmpR op_eq (pv 8) pe_int (nomark _)))) (fun _ _ _ _ _ => (pv 7)))))
    <| pss_cons (ps_if (PW.pt (pw_or (pt_cmpR (opEd K hr) (pv 4) (pe_tup pa_nil) (nomark _)) (pw_or1 (pt_cmpR (opEd K hr) (pv 5) (pe_tup pa_nil) (nomark _))))) (pss_one (ps_ret pe_non)) pss_nil)
    <| pss_cons (ps_set (i := 6) sc_law_told.nd rfl (Or.inl rfl) (pe_tup (pa_cons (pv 2) (pa_cons (pc G_law_all_signs hr (pa_cons (pv 2) pa_nil)) (pa_cons (pv 4) (pa_cons (pv 5) pa_nil))))))
    <| pss_one (ps_ret (pc G_law_as_formula hr (pa_cons (pc G_law_any_talk hr (pa_cons (pv 0) (pa_cons (pv 6) (pa_cons (pv 4) (pa_cons (pv 5) pa_nil))))) pa_nil))), ?_⟩
  refine seqW (P := fun σ H1 => σ = [some (.ref d), some (.ref a), some (.int (n : Int)), some (.ref b), none, none, none, none, none] ∧ H = H1) (fun R hR => ⟨_, rfl, a, _, rfl, SqT.of ha, rfl, _, _, rfl, _, _, rfl, rfl, hR _ _ ⟨rfl, rfl⟩⟩) fun σ H1 h => ?_
  obtain ⟨rfl, rfl⟩ := h
  refine seqW (P := fun σ H1 => (∃ p, σ = [some (.ref d), some (.ref a), some (.int (n : Int)), some (.ref b), some (.ref p), none, none, none, none] ∧ H1 p = some (.tup ((nats (nearL A')).map V.int))) ∧ Same H H1) (fun R hR => ?_) fun σ H1 h => ?_
  · refine ⟨_, rfl, b, _, rfl, SqT.of hb, fun D hD => lc_it walk_enT (fun i H2 => Same H H2 ∧ H2 D = some (.lst ((nats ((List.range i).filter fun k => Sb.at_ A' k)).map V.int))) ⟨sNew hD, upd_same⟩ (fun i H2 _ h => SqT.of (h.1 _ _ hb)) (fun i x H2 H3 hi h y => ?_) fun H2 h => ?_⟩
    · obtain ⟨g2, kD⟩ := h
      obtain ⟨t, x1, y1, rfl, ht1, rfl, e1, e2⟩ := y
      cases e1
      have hi2 : i < A'.length := by rw [← lA]; exact hi
      have e3 : y1 = .int (b2n (Sb.at_ A' i) : Int) := by
        have e4 : ((zo A').map V.int)[i]? = some y1 := e2
        rw [zo_at hi2] at e4
        exact (Option.some.inj e4).symm
      subst e3
      have s1 := sNew (o := .tup [.int ((i : Nat) : Int), .int (b2n (Sb.at_ A' i) : Int)]) ht1
      refine ⟨t, _, rfl, SqT.of upd_same, rfl, _, _, rfl, _, _, rfl, rfl, ?_⟩
      refine ⟨rfl, _, rfl, rfl, _, rfl, ?_⟩
      rw [b2n_one]
      have kD1 := s1 _ _ kD
      cases z : Sb.at_ A' i with
      | true =>
        rw [z] at kD1 s1
        refine iteT ⟨_, rfl, _, kD1, szl ?_, sUp (g2.trans s1) hD, ?_⟩
        · rw [nats_len]
          have := List.length_filter_le (fun k => Sb.at_ A' k) (List.range i)
          rw [List.length_range] at this
          omega
        · rw [upd_same, range_snoc_filter, if_pos z, nats_app]
          rfl
      | false =>
        rw [z] at kD1 s1
        refine iteF ⟨g2.trans s1, ?_⟩
        rw [range_snoc_filter, z, if_neg Bool.false_ne_true, List.append_nil]
        exact kD1
    · obtain ⟨g2, kD⟩ := h
      rw [lA] at kD
      exact ⟨D, _, rfl, .inl ⟨SqL.of kD, fun p hp => hR _ _ ⟨⟨p, rfl, upd_same⟩, g2.trans (sNew hp)⟩⟩⟩
  obtain ⟨⟨p, rfl, hp⟩, g1⟩ := h
  refine seqW (P := fun σ H2 => (∃ p2, σ = [some (.ref d), some (.ref a), some (.int (n : Int)), some (.ref b), some (.ref p), some (.ref p2), none, none, none] ∧ H2 p2 = some (.tup ((nats (farL A')).map V.int))) ∧ Same H1 H2) (fun R hR => ?_) fun σ H2 h => ?_
  · have hb1 := g1 _ _ hb
    refine ⟨_, rfl, b, _, rfl, SqT.of hb1, fun D hD => lc_it walk_enT (fun i H2 => Same H1 H2 ∧ H2 D = some (.lst ((nats ((List.range i).filter fun k => !Sb.at_ A' k)).map V.int))) ⟨sNew hD, upd_same⟩ (fun i H2 _ h => SqT.of (h.1 _ _ hb1)) (fun i x H2 H3 hi h y => ?_) fun H2 h => ?_⟩
    · obtain ⟨g2, kD⟩ := h
      obtain ⟨t, x1, y1, rfl, ht1, rfl, e1, e2⟩ := y
      cases e1
      have hi2 : i < A'.length := by rw [← lA]; exact hi
      have e3 : y1 = .int (b2n (Sb.at_ A' i) : Int) := by
        have e4 : ((zo A').map V.int)[i]? = some y1 := e2
        rw [zo_at hi2] at e4
        exact (Option.some.inj e4).symm
      subst e3
      have s1 := sNew (o := .tup [.int ((i : Nat) : Int), .int (b2n (Sb.at_ A' i) : Int)]) ht1
      refine ⟨t, _, rfl, SqT.of upd_same, rfl, _, _, rfl, _, _, rfl, rfl, ?_⟩
      refine ⟨rfl, _, rfl, rfl, _, rfl, ?_⟩
      rw [b2n_zero2]
      have kD1 := s1 _ _ kD
      cases z : Sb.at_ A' i with
      | false =>
        rw [z] at kD1 s1
        refine iteT ⟨_, rfl, _, kD1, szl ?_, sUp (g2.trans s1) hD, ?_⟩
        · rw [nats_len]
          have := List.length_filter_le (fun k => !Sb.at_ A' k) (List.range i)
          rw [List.length_range] at this
          omega
        · rw [upd_same, range_snoc_filter, if_pos (by rw [z] <;> rfl), nats_app]
          rfl
      | true =>
        rw [z] at kD1 s1
        refine iteF ⟨g2.trans s1, ?_⟩
        rw [range_snoc_filter, z, if_neg (by decide), List.append_nil]
        exact kD1
    · obtain ⟨g2, kD⟩ := h
      rw [lA] at kD
      exact ⟨D, _, rfl, .inl ⟨SqL.of kD, fun p hp => hR _ _ ⟨⟨p, rfl, upd_same⟩, g2.trans (sNew hp)⟩⟩⟩
  obtain ⟨⟨p2, rfl, hp2⟩, g2⟩ := h
  have hp := g2 _ _ hp
  have g12 := g1.trans g2
  refine seqW (P := fun σ H3 => σ = [some (.ref d), some (.ref a), some (.int (n : Int)), some (.ref b), some (.ref p), some (.ref p2), none, none, none] ∧ Same H2 H3 ∧ nearL A' ≠ [] ∧ farL A' ≠ [])
      (fun R hR => ifW (P1 := fun H3 => Same H2 H3) (P0 := fun H3 => Same H2 H3 ∧ nearL A' ≠ [] ∧ farL A' ≠ []) (fun Z z1 z0 => ?_) (fun H3 h => ?_) fun H3 h => hR _ _ ⟨rfl, h⟩) fun σ H3 h => ?_
  · refine ⟨_, rfl, sz (by show 0 ≤ 100000; decide), fun pe hpe => ?_⟩
    have s1 := sNew (o := .tup []) hpe
    refine ⟨dI (nats (nearL A')), dI [], dp (Tp.ints (s1 _ _ hp)), dp (Tp.ints (ns := []) upd_same), dI_shaped _, dI_shaped [], _, rfl, ?_⟩
    rw [eqv_dI]
    refine ite2 (fun _ => z1 _ s1) fun e1 => ?_
    refine ⟨_, rfl, sz (by show 0 ≤ 100000; decide), fun pf hpf => ?_⟩
    have s2 := s1.trans (sNew (o := .tup []) hpf)
    refine ⟨dI (nats (farL A')), dI [], dp (Tp.ints (s2 _ _ hp2)), dp (Tp.ints (ns := []) upd_same), dI_shaped _, dI_shaped [], _, rfl, ?_⟩
    rw [eqv_dI]
    by_cases e2 : nats (farL A') = []
    · rw [decide_eq_true e2]
      exact z1 _ s2
    · rw [decide_eq_false e2]
      exact z0 _ ⟨s2, fun z => e1 (decide_eq_true (by rw [z]; rfl)), fun z => e2 (by rw [z]; rfl)⟩
  · exact q .non H3 ((hd.same (g12.trans h)).more (by omega)) (kp (g12.trans h)) (.inl rfl)
  obtain ⟨rfl, g3, ne, fe⟩ := h
  have Rw := rows_of hA ne fe
  have hp := g3 _ _ hp
  have hp2 := g3 _ _ hp2
  have gH := g12.trans g3
  have nl := nf_len A'
  refine ⟨_, rfl, _, rfl, n, rfl, by omega, fun r H4 g4 dr => ?_⟩
  refine ⟨_, rfl, _, rfl, sz (by show 4 ≤ 100000; decide), fun p3 hp3 => ?_⟩
  have s4 := g4.trans (sNew (o := .tup [.int (n : Int), r, .ref p, .ref p2]) hp3)
  have hq : Tp (upd H4 p3 (.tup [.int (n : Int), r, .ref p, .ref p2])) (.ref p3) (dQ n (nats (nearL A')) (nats (farL A'))) :=
    .tup upd_same (.cons (.int _) (.cons (tpS (sNew hp3) dr) (.cons (Tp.ints (s4 _ _ hp)) (.cons (Tp.ints (s4 _ _ hp2)) .nil))))
  generalize upd H4 p3 (.tup [.int (n : Int), r, .ref p, .ref p2]) = H5 at s4 hq
  have d5 := hd.same (gH.trans s4)
  refine ⟨_, rfl, _, rfl, _, rfl, _, rfl, d, c, l, p, p2, N, n, _, _, nearL A', farL A', .ref p3, rfl, d5, by omega, by omega, hq, s4 _ _ hp, s4 _ _ hp2, Rw, by omega, by omega, fun t r2 H6 tl d6 k6 e6 => ?_⟩
  have dp6 := tl.dp
  refine ⟨t, r2, rfl, e6, by omega, fun r3 H7 g7 e7 => ?_⟩
  exact q r3 H7 ((d6.same g7).more (by omega)) ((kp (gH.trans s4)).trans (k6.trans (kp g7))) (.inr ⟨tfm t, tl.ok, by omega, fun k hk => tells_tab hA tl hk, e7⟩)

abbrev n_law_both_right : List Str := ["_law_state", "_law_near", "_law_far", "_law_one", "_law_other", "_law_whole", "_law_worths_so", "_law_line", "_law_item"]
theorem sc_law_both_right : FnScope n_law_both_right ["_law_state", "_law_near", "_law_far"] (defScope s_law_both_right) := ⟨rfl, rfl, rfl, by decide +kernel, rfl, by decide +kernel, by decide +kernel⟩
def spBr : Sp := fun vs H Q _ => ∃ (d c l : Addr) (N n m : Nat) (A B : List Bool) (u v : V), vs = [.ref d, u, v] ∧ Dr H d c l N ∧ N + 3000000 < 500000000000000000 ∧ Two H u v n A m B ∧ n ≤ 4 ∧ m ≤ 4 ∧
  ∀ H', Dr H' d c l (N + 3000000) → Kp d l H H' → Q (.bl true) H'
theorem ok_law_both_right (T : Top K mg) : Ok P w K mg base 126 "_law_both_right" ["_law_state", "_law_near", "_law_far"] spBr := by
  have G_law_told := ok_law_told (P := P) (w := w) (base := base) T
  have G_law_leaves := ok_law_leaves (P := P) (w := w) (base := base) T 15
  have G_put_formula := ok_put_formula (P := P) (w := w) (base := base) T
  have G_law_put_values := ok_law_put_values (P := P) (w := w) (base := base) T
  have G_law_worth := ok_law_worth (P := P) (w := w) (base := base) T 61
  refine mk (T.at_ (st := s_law_both_right) 54) sc_law_both_right (fun _ _ _ _ _ _ us hl => match us, hl with | [_, _, _], _ => rfl) (fun vs H Q E h => ?_) fun cdv A outer s H vs Q E hr h => ?_
  · obtain ⟨d, c, l, N, n, m, A, B, u, v, rfl, _⟩ := h
    rfl
  obtain ⟨d, c, l, N, n, m, A', B', u, v, rfl, hd, hN, tt, n4, m4, q⟩ := h
  obtain ⟨hu, hv, n1, m1, nm, hA, hB⟩ := id tt
  refine ⟨_, pss_cons (ps_par (i := 3) (j := 4) (by rfl) sc_law_both_right.nd rfl rfl (by decide) rfl rfl (pa_cons (pc G_law_told hr (pa_cons (pv 0) (pa_cons (pv 1) pa_nil))) (pa_cons (pc G_law_told hr (pa_cons (pv 0) (pa_cons (pv 2) pa_nil))) pa_nil)) (by rfl))
    <| pss_cons (ps_if (PW.pt (pw_or (pt_cmpR op_isN (pv 3) pe_non (nomark _)) (pw_or (pt_cmpR op_isN (pv 4) pe_non (nomark _)) (pw_or1 (pt_cmpR op_gt (pe_op op_mul (pc G_law_leaves hr (pa_cons (pv 3) pa_nil)) (pc G_law_leaves hr (pa_cons (pv 4) pa_nil))) pe_int (nomark _)))))) (pss_one (ps_ret pe_bl)) pss_nil)
    <| pss_cons (ps_set (i := 5) sc_law_both_right.nd rfl (Or.inr rfl) (pc G_put_formula hr (pa_cons (pIx K (pv 1) pe_int) (pa_cons (pv 3) (pa_cons (pIx K (pv 2) pe_int) (pa_cons (pv 4) pa_nil))))))
    <| pss_cons (ps_set (i := 6) sc_law_both_right.nd rfl (Or.inl rfl) (pc G_law_put_values hr (pa_cons (pv 1) (pa_cons (pv 2) pa_nil))))
    <| pss_one (ps_ret (pe_cmpR (opEd K hr) (pe_lc (own := [("_law_line", 7), ("_law_item", 8)]) (g := gTup K 2 (gCons (gName 7) (gCons (gName 8) (gNil)))) rfl sc_law_both_right.nd (pi_enT T.enumerate (pa_cons (pv 6) pa_nil)) (blkOk_by (N := n_law_both_right) (sc := defScope s_law_both_right) (by decide +kernel)) (fun _ _ _ _ _ => (pg_tup rfl (pgs_cons (pg_name (i := 7) sc_law_both_right.nd rfl (Or.inl rfl)) (pgs_cons (pg_name (i := 8) sc_law_both_right.nd rfl (Or.inl rfl)) pgs_nil)))) (fun _ _ _ _ _ => (pts_one (pt_cmpR op_ne (pc G_law_worth hr (pa_cons (pv 5) (pa_cons (pv 7) pa_nil))) (pe_cmpR op_eq (pv 8) pe_int (nomark _)) (nomark _)))) (fun _ _ _ _ _ => pe_int)) (pe_lst pa_nil) (nomark _))), ?_⟩
  refine seqW (P := fun σ H1 => (∃ x y, σ = [some (.ref d), some u, some v, some x, some y, none, none, none, none] ∧ Told H1 x n A' ∧ Told H1 y m B') ∧ Dr H1 d c l (N + 2800000) ∧ Kp d l H H1) (fun R hR => ?_) fun σ H1 h => ?_
  · refine ⟨_, rfl, _, rfl, d, c, l, N, n, A', u, rfl, hd, by omega, hu, n1, n4, hA, fun x H1 d1 k1 t1 => ?_⟩
    refine ⟨_, rfl, _, rfl, d, c, l, N + 1400000, m, B', v, rfl, d1, by omega, tp (hd.kt k1) hv, m1, m4, hB, fun y H2 d2 k2 t2 => ?_⟩
    exact ⟨_, _, rfl, hR _ _ ⟨⟨x, y, rfl, t1.mono (d1.kt k2), t2⟩, d2.more (by omega), k1.trans k2⟩⟩
  obtain ⟨⟨x, y, rfl, tx, ty⟩, d1, k1⟩ := h
  refine seqW (P := fun σ H2 => σ = [some (.ref d), some u, some v, some x, some y, none, none, none, none] ∧ Same H1 H2 ∧ ∃ f g, (Fm.ok n f ∧ f.dep ≤ 14 ∧ (∀ k, k < 2 ^ n → f.so k = Sb.at_ A' k) ∧ Tp H2 x (dF f)) ∧ (Fm.ok m g ∧ g.dep ≤ 14 ∧ (∀ k, k < 2 ^ m → g.so k = Sb.at_ B' k) ∧ Tp H2 y (dF g)) ∧ f.lvs * g.lvs ≤ 200)
      (fun R hR => ifW (P1 := fun H2 => Same H1 H2) (P0 := fun H2 => Same H1 H2 ∧ ∃ f g, (Fm.ok n f ∧ f.dep ≤ 14 ∧ (∀ k, k < 2 ^ n → f.so k = Sb.at_ A' k) ∧ Tp H2 x (dF f)) ∧ (Fm.ok m g ∧ g.dep ≤ 14 ∧ (∀ k, k < 2 ^ m → g.so k = Sb.at_ B' k) ∧ Tp H2 y (dF g)) ∧ f.lvs * g.lvs ≤ 200) (fun Z z1 z0 => ?_) (fun H2 h => ?_) fun H2 h => hR _ _ ⟨rfl, h⟩) fun σ H2 h => ?_
  · refine ⟨_, rfl, rfl, _, rfl, ?_⟩
    rcases tx with rfl | ⟨f, okf, df, sf, tf⟩
    · exact iteDT rfl (z1 _ (Same.refl _))
    refine iteDF (fun z => by rw [z] at tf; cases f <;> cases tf) ?_
    refine ⟨_, rfl, rfl, _, rfl, ?_⟩
    rcases ty with rfl | ⟨g, okg, dg, sg, tg⟩
    · exact iteDT rfl (z1 _ (Same.refl _))
    refine iteDF (fun z => by rw [z] at tg; cases g <;> cases tg) ?_
    have l1 : f.lvs ≤ 16384 := Nat.le_trans f.lvs_le (Nat.le_trans (Nat.pow_le_pow_right (by decide) df) (by decide))
    refine ⟨_, rfl, f, x, rfl, tf, by omega, fun H2 g2 => ⟨_, rfl, g, y, rfl, tpS g2 tg, by omega, fun H3 g3 => ?_⟩⟩
    refine ⟨_, _, rfl, rfl, .inl ⟨by omega, by omega⟩, _, _, rfl, rfl, _, rfl, ?_⟩
    have g23 := g2.trans g3
    have ec : (f.lvs : Int) * (g.lvs : Int) = ((f.lvs * g.lvs : Nat) : Int) := (Int.natCast_mul _ _).symm
    by_cases c200 : f.lvs * g.lvs ≤ 200
    · have cc : decide ((200 : Int) < (f.lvs : Int) * (g.lvs : Int)) = false := decide_eq_false (by rw [ec]; omega)
      show Z (decide ((200 : Int) < (f.lvs : Int) * (g.lvs : Int))) H3
      rw [cc]
      exact z0 _ ⟨g23, f, g, ⟨okf, df, sf, tpS g23 tf⟩, ⟨okg, dg, sg, tpS g23 tg⟩, c200⟩
    · have cc : decide ((200 : Int) < (f.lvs : Int) * (g.lvs : Int)) = true := decide_eq_true (by rw [ec]; omega)
      show Z (decide ((200 : Int) < (f.lvs : Int) * (g.lvs : Int))) H3
      rw [cc]
      exact z1 _ g23
  · exact q H2 ((d1.same h).more (by omega)) (k1.trans (kp h))
  obtain ⟨rfl, g2, f, g, ⟨okf, df, sf, tf⟩, ⟨okg, dg, sg, tg⟩, c200⟩ := h
  have d2 := d1.same g2
  have k2 := k1.trans (kp g2)
  have tu := tp (hd.kt k2) hu
  have tv := tp (hd.kt k2) hv
  obtain ⟨a, b, rfl, ha, hb⟩ := tu.tabE
  obtain ⟨c1, c2, rfl, hc, hc2⟩ := tv.tabE
  refine ⟨_, rfl, a, _, _, _, rfl, rfl, SqT.of ha, rfl, _, rfl, _, rfl, c1, _, _, _, rfl, rfl, SqT.of hc, rfl, _, rfl, n, m, f, g, x, y, rfl, n1, m1, nm, tf, okf, tg, okg, c200, by omega, fun r H3 g3 tr => ?_⟩
  refine ⟨_, rfl, _, rfl, n, m, A', B', .ref a, .ref c1, rfl, Two.mono g3 ⟨tu, tv, n1, m1, nm, hA, hB⟩, fun r2 H4 g4 tr2 => ?_⟩
  obtain ⟨rb, rfl, hrb⟩ := tr2.intsE
  have lt := zo_len (tin n A' m B')
  have okP : Fm.ok (n * m) (Fm.put m g f) := Fm.put_ok g okg f okf
  have dpP := Fm.put_dep m g f
  refine ⟨_, rfl, rb, _, rfl, SqT.of hrb, fun D hD => lc_it walk_enT (fun i H5 => Same H4 H5 ∧ H5 D = some (.lst [])) ⟨sNew hD, upd_same⟩ (fun i H5 _ h => SqT.of (h.1 _ _ hrb)) (fun i z H5 H6 hi h yy => ?_) fun H5 h => ?_⟩
  · obtain ⟨g5, kD⟩ := h
    obtain ⟨t, x1, y1, rfl, ht1, rfl, e1, e2⟩ := yy
    cases e1
    have hi2 : i < (tin n A' m B').length := by rw [← lt]; exact hi
    have hi3 : i < 2 ^ (n * m) := by rw [← tin_length n A' m B']; exact hi2
    have e3 : y1 = .int (b2n (Sb.at_ A' (tot n m (Sb.at_ B') i)) : Int) := by
      have e4 : ((zo (tin n A' m B')).map V.int)[i]? = some y1 := e2
      rw [zo_at hi2] at e4
      have e5 : Sb.at_ (tin n A' m B') i = Sb.at_ A' (tot n m (Sb.at_ B') i) := by
        show (tin n A' m B').getD i false = _
        rw [List.getD_eq_getElem?_getD, tin_at hi3]
        rfl
      rw [e5] at e4
      exact (Option.some.inj e4).symm
    subst e3
    generalize hv9 : Sb.at_ A' (tot n m (Sb.at_ B') i) = v9 at ht1
    have s1 := sNew (o := .tup [.int ((i : Nat) : Int), .int (b2n v9 : Int)]) ht1
    refine ⟨t, _, rfl, SqT.of upd_same, rfl, _, _, rfl, _, _, rfl, rfl, ?_⟩
    refine ⟨rfl, _, rfl, _, rfl, Fm.put m g f, i, r, rfl, tpS (g4.trans (g5.trans s1)) tr, Fm.ok_mono nm _ okP, by omega, fun H7 g7 => ?_⟩
    have es : (Fm.put m g f).so i = v9 := by rw [← hv9]; exact put_both okf okg sf sg i
    refine ⟨_, rfl, rfl, rfl, _, rfl, iteNS ?_ ⟨g5.trans (s1.trans g7), g7 _ _ (s1 _ _ kD)⟩⟩
    rw [b2n_one, es]
  · obtain ⟨g5, kD⟩ := h
    refine ⟨sz (by show 0 ≤ 100000; decide), fun p hp => ?_⟩
    refine ⟨.list [], .list [], .lst (SqL.of ((sNew hp) _ _ kD)) .nil, .lst (SqL.of upd_same) .nil, intsL_shaped [], intsL_shaped [], ?_⟩
    have e0 : PyData.eqv (.list []) (.list []) = true := eqv_nil []
    rw [e0]
    have g35 := g3.trans (g4.trans (g5.trans (sNew (o := .lst []) hp)))
    exact q _ ((d2.same g35).more (by omega)) (k2.trans (kp g35))
end
end Sb


namespace Sb
open PySem PySem.Spec
open PyProof.Rows L2
section
variable {P : Program} {w : World} {K : PySem.W.Frag} {mg : Str → Option Value} {base : Heap}

/-! ### data that repr shows -/
structure Nice (d : PyData) (D W : Nat) : Prop where
  lay : d.canLay0 = true
  sh : d.showable = true
  sr : d.intsShort 13 = true
  dp : d.depth ≤ D
  wt : d.weight ≤ W
theorem Nice.mono {d : PyData} {D W D' W' : Nat} (h : Nice d D W) (h1 : D ≤ D') (h2 : W ≤ W') : Nice d D' W' := ⟨h.lay, h.sh, h.sr, Nat.le_trans h.dp h1, Nat.le_trans h.wt h2⟩
theorem small_ints : ∀ i : Nat, i < 256 → (PyData.intsShort 13 (.int (i : Int)) && PyData.showable (.int (i : Int)) && decide (PyData.weight (.int (i : Int)) ≤ 9)) = true := by decide +kernel
theorem nice_int {i : Nat} (h : i < 256) : Nice (.int (i : Int)) 0 9 := by
  have a := small_ints i h
  simp only [Bool.and_eq_true, decide_eq_true_eq] at a
  exact ⟨by simp only [PyData.canLay0], a.1.2, a.1.1, by simp [PyData.depth], a.2⟩
theorem nice_wd (o : Bool) : Nice (.str (wd o)) 0 3 := by
  refine ⟨?_, by simp only [PyData.showable], by simp only [PyData.intsShort], by simp [PyData.depth], ?_⟩
  · cases o <;> decide +kernel
  · cases o <;> decide +kernel
theorem nice_all {D W : Nat} : ∀ {ds : List PyData}, (∀ d, d ∈ ds → Nice d D W) → PyData.canLayAll0 ds = true ∧ PyData.showableAll ds = true ∧ PyData.intsShortAll 13 ds = true ∧ PyData.depthAll ds ≤ D ∧ PyData.weightAll ds ≤ ds.length * (W + 1)
  | [], _ => by simp [PyData.canLayAll0, PyData.showableAll, PyData.intsShortAll, PyData.depthAll, PyData.weightAll]
  | d :: ds, h => by
    obtain ⟨h1, h2, h3, h4, h5⟩ := h d List.mem_cons_self
    obtain ⟨a1, a2, a3, a4, a5⟩ := nice_all (ds := ds) fun e he => h e (List.mem_cons_of_mem _ he)
    refine ⟨by simp only [PyData.canLayAll0, h1, a1, Bool.and_self], by simp only [PyData.showableAll, h2, a2, Bool.and_self], by simp only [PyData.intsShortAll, h3, a3, Bool.and_self], ?_, ?_⟩
    · simp only [PyData.depthAll]
      omega
    · simp only [PyData.weightAll, List.length_cons, Nat.add_mul, Nat.one_mul]
      omega
theorem nice_tup {D W : Nat} {ds : List PyData} (h : ∀ d, d ∈ ds → Nice d D W) : Nice (.tuple ds) (D + 1) (ds.length * (W + 1)) := by
  obtain ⟨a1, a2, a3, a4, a5⟩ := nice_all h
  exact ⟨by simpa only [PyData.canLay0] using a1, by simpa only [PyData.showable] using a2, by simpa only [PyData.intsShort] using a3, by simp only [PyData.depth]; omega, by simpa only [PyData.weight] using a5⟩
theorem nice_lst {D W : Nat} {ds : List PyData} (h : ∀ d, d ∈ ds → Nice d D W) : Nice (.list ds) (D + 1) (ds.length * (W + 1)) := by
  obtain ⟨a1, a2, a3, a4, a5⟩ := nice_all h
  exact ⟨by simpa only [PyData.canLay0] using a1, by simpa only [PyData.showable] using a2, by simpa only [PyData.intsShort] using a3, by simp only [PyData.depth]; omega, by simpa only [PyData.weight] using a5⟩
theorem nice_zo {A : List Bool} (h : A.length ≤ 256) : Nice (dI (zo A)) 1 2560 := by
  refine (nice_tup (D := 0) (W := 9) (ds := (zo A).map PyData.int) fun d hd => ?_).mono (Nat.le_refl _) ?_
  · obtain ⟨i, hi, rfl⟩ := List.mem_map.mp hd
    unfold zo at hi
    obtain ⟨b, _, rfl⟩ := List.mem_map.mp hi
    exact nice_int (by have := b2n_le b; omega)
  · rw [List.length_map]
    unfold zo
    rw [List.length_map]
    omega
theorem nice_two {x y : PyData} {D W : Nat} (h1 : Nice x D W) (h2 : Nice y D W) : Nice (.tuple [x, y]) (D + 1) (2 * (W + 1)) := nice_tup fun d hd => by
  rcases List.mem_cons.mp hd with rfl | hd
  · exact h1
  · rw [List.mem_singleton.mp hd]
    exact h2
theorem nice_dT {n : Nat} {A : List Bool} (h : n < 256) (hA : A.length ≤ 256) : Nice (dT n A) 2 6000 :=
  (nice_two (D := 1) (W := 2560) ((nice_int h).mono (by decide) (by decide)) (nice_zo hA)).mono (by decide) (by decide)
def nw : Nat → Nat
  | 0 => 20
  | k + 1 => 3 * (nw k + 1)
theorem nw_succ (k : Nat) : nw k ≤ nw (k + 1) := by
  show nw k ≤ 3 * (nw k + 1)
  omega
theorem nw_mono {j : Nat} : ∀ {k : Nat}, j ≤ k → nw j ≤ nw k
  | 0, h => by
    have z : j = 0 := Nat.le_zero.mp h
    rw [z]
    exact Nat.le_refl _
  | k + 1, h => by
    by_cases e : j = k + 1
    · rw [e]
      exact Nat.le_refl _
    · exact Nat.le_trans (nw_mono (by omega)) (nw_succ k)
theorem nice_dF {n : Nat} (hn : n ≤ 256) : ∀ f : Fm, f.ok n → Nice (dF f) (f.dep + 1) (nw f.dep)
  | .sg i b, h => nice_two (D := 0) (W := 9) (nice_int (Nat.lt_of_lt_of_le h hn)) (nice_int (by have := b2n_le b; omega))
  | .bin o a b, h => by
    have h1 := nice_dF hn a h.1
    have h2 := nice_dF hn b h.2
    have e : (Fm.bin o a b).dep = max a.dep b.dep + 1 := Nat.add_comm _ _
    rw [e]
    refine nice_tup (D := max a.dep b.dep + 1) (W := nw (max a.dep b.dep)) (ds := [.str (wd o), dF a, dF b]) fun d hd => ?_
    have n20 : 20 ≤ nw (max a.dep b.dep) := nw_mono (j := 0) (Nat.zero_le _)
    rcases List.mem_cons.mp hd with rfl | hd
    · exact (nice_wd o).mono (Nat.zero_le _) (by omega)
    · rcases List.mem_cons.mp hd with rfl | hd
      · exact h1.mono (by omega) (nw_mono (by omega))
      · rw [List.mem_singleton.mp hd]
        exact h2.mono (by omega) (nw_mono (by omega))

theorem pRepr (K : PySem.W.Frag) {X : Cx} {e : Expr} {te : TE} {p pos : Pos} {k : Nat} (hm : X.mg "repr" = none) (hr : Room k X.A) (gs : X.A.guards = some []) (he : PE X e te) (hK : X.K = K := by rfl) (hg : Gl X "repr" := by rfl) (h1 : starEach [e] X.env = (false, eval e X.env) :: starEach [] X.env := by rfl) (hpl : (backTo pos (starEach [] X.env)).any (·.1) = false := by rfl) :
    PE X (.Call (.Name "repr" p) [e] [] pos) (tCB (rShow K) (tCons te tNil)) := by
  subst hK
  exact pe_callB (call_show hr gs) hg hm PyProof.Rows.boot_repr (pa_cons he pa_nil h1) (by decide) (by decide) h1 hpl

abbrev n_law_like : List Str := ["_law_got", "_law_due"]
theorem sc_law_like : FnScope n_law_like ["_law_got", "_law_due"] (defScope s_law_like) := ⟨rfl, rfl, rfl, by decide +kernel, rfl, by decide +kernel, by decide +kernel⟩
def spLike (K : PySem.W.Frag) : Sp := fun vs H Q _ => ∃ (x y : V) (d : PyData), vs = [x, y] ∧ Dp K H x d ∧ Dp K H y d ∧ ((∃ b, d = .bool b) ∨ ((∃ a, x = .ref a) ∧ (∃ a, y = .ref a) ∧ Nice d 60 1048576)) ∧ Q (.bl true) H
theorem ok_law_like (T : Top K mg) : OkG P w K mg base 1 "_law_like" ["_law_got", "_law_due"] (spLike K) := by
  refine mkG (T.at_ (st := s_law_like) 49) sc_law_like (fun _ _ _ _ _ _ us hl => match us, hl with | [_, _], _ => rfl) (fun vs H Q E h => ?_) fun cdv A outer s H vs Q E hr gs h => ?_
  · obtain ⟨x, y, d, rfl, _⟩ := h
    rfl
  obtain ⟨x, y, d, rfl, hx, hy, h, q⟩ := h
  refine ⟨_, pss_one (ps_ret (pe_cmpR op_eq (pRepr K T.repr hr gs (pv 0)) (pRepr K T.repr hr gs (pv 1)) (nomark _))), ?_⟩
  have last : ∀ s : Str, Q (.bl (decide (V.str s = V.str s))) H := fun s => by
    rw [decide_eq_true rfl]
    exact q
  rcases h with ⟨b, rfl⟩ | ⟨⟨a1, rfl⟩, ⟨a2, rfl⟩, N⟩
  · exact ⟨_, rfl, x, _, rfl, hx, .inl ⟨b, rfl, _, rfl, y, _, rfl, hy, .inl ⟨b, rfl, rfl, last _⟩⟩⟩
  · have l0 : PyData.layable0 d = true := by
      show (PyData.canLay0 d && decide (PyData.depth d ≤ 64) && decide (PyData.weight d ≤ 2 ^ 20)) = true
      have h1 := N.dp
      have h2 := N.wt
      rw [N.lay, decide_eq_true (show d.depth ≤ 64 by omega), decide_eq_true (show d.weight ≤ 2 ^ 20 by omega)]
      rfl
    have hs := PyData.shown_fits_of_layable0 (B := 13) (by decide) (by decide) l0 N.sr
    have nd := PyData.hasDict_of_canLay d N.lay
    exact ⟨_, rfl, .ref a1, d, rfl, hx, .inr ⟨⟨a1, rfl⟩, N.sh, nd, N.dp, hs, _, rfl, .ref a2, d, rfl, hy, .inr ⟨⟨a2, rfl⟩, N.sh, nd, N.dp, hs, rfl, last _⟩⟩⟩
end
end Sb


namespace Sb
open PySem PySem.Spec
open PyProof.Rows L2
section
variable {P : Program} {w : World} {K : PySem.W.Frag} {mg : Str → Option Value} {base : Heap}

theorem zo_tabF (n : Nat) (f : Fm) : zo (tabF n f) = (List.range (2 ^ n)).map fun k => ((b2n (f.so k) : Nat) : Int) := by
  unfold zo tabF
  rw [List.map_map]
  rfl
theorem at_tin {n m : Nat} {A B : List Bool} {r : Nat} (h : r < 2 ^ (n * m)) : Sb.at_ (tin n A m B) r = Sb.at_ A (tot n m (Sb.at_ B) r) := by
  show (tin n A m B).getD r false = _
  rw [List.getD_eq_getElem?_getD, tin_at h]
  rfl
theorem b2n_bool (b : Bool) : V.bl (decide (V.int (b2n b : Int) = V.int 1)) = V.bl b := by rw [b2n_one]
theorem tp_quest {H : Hp} {n : Nat} {r : V} {p1 p2 p3 : Addr} (tr : Tp H r (dSs (sgs n))) (h1 : H p1 = none) (h2 : (upd H p1 (.tup [.int 0])) p2 = none) (h3 : (upd (upd H p1 (.tup [.int 0])) p2 (.tup [.int 1])) p3 = none) :
    Same H (upd (upd (upd H p1 (.tup [.int 0])) p2 (.tup [.int 1])) p3 (.tup [.int (n : Int), r, .ref p1, .ref p2])) ∧ Tp (upd (upd (upd H p1 (.tup [.int 0])) p2 (.tup [.int 1])) p3 (.tup [.int (n : Int), r, .ref p1, .ref p2])) (.ref p3) (dQ n [0] [1]) := by
  have s1 := sNew (o := .tup [.int 0]) h1
  have s2 := sNew (o := .tup [.int 1]) h2
  have s3 := sNew (o := .tup [.int (n : Int), r, .ref p1, .ref p2]) h3
  refine ⟨s1.trans (s2.trans s3), .tup upd_same (.cons (.int _) (.cons (tpS (s1.trans (s2.trans s3)) tr) (.cons ?_ (.cons ?_ .nil))))⟩
  · exact Tp.ints (ns := [0]) (s3 _ _ (s2 _ _ upd_same))
  · exact Tp.ints (ns := [1]) (s3 _ _ upd_same)
abbrev n_law_right : List Str := ["_law_state", "_law_near", "_law_far", "_law_due", "_law_one", "_law_other", "_law_whole", "_law_count", "_law_asked_so", "_law_parts", "_law_deep", "_law_wide", "_law_got", "_law_inner_so", "_law_outer_so", "_law_worths_so", "_law_line"]
theorem sc_law_right : FnScope n_law_right ["_law_state"] (defScope s_law_right) := ⟨rfl, rfl, rfl, by decide +kernel, rfl, by decide +kernel, by decide +kernel⟩
def spRight : Sp := fun vs H Q _ => ∃ (d c l : Addr) (N : Nat), vs = [.ref d] ∧ Dr H d c l N ∧ N + 4000000 < 500000000000000000 ∧ ∀ H', Dr H' d c l (N + 4000000) → Kp d l H H' → Q (.bl true) H'
theorem ok_law_right (T : Top K mg) : OkG P w K mg base 127 "_law_right" ["_law_state"] spRight := by
  have G_law_tables := ok_law_tables (P := P) (w := w) (base := base) T
  have G_law_put_values := ok_law_put_values (P := P) (w := w) (base := base) T
  have G_law_like := ok_law_like (P := P) (w := w) (base := base) T
  have G_put_in := ok_put_in (P := P) (w := w) (base := base) T
  have G_law_made := ok_law_made (P := P) (w := w) (base := base) T 4
  have G_law_all_signs := ok_law_all_signs (P := P) (w := w) (base := base) T
  have G_put_formula := ok_put_formula (P := P) (w := w) (base := base) T
  have G_law_put := ok_law_put (P := P) (w := w) (base := base) T 4
  have G_depth_of := ok_depth_of (P := P) (w := w) (base := base) T
  have G_leaves_of := ok_leaves_of (P := P) (w := w) (base := base) T
  have G_value_of := ok_value_of (P := P) (w := w) (base := base) T
  have G_law_power := ok_law_power (P := P) (w := w) (base := base) T
  have G_law_worth := ok_law_worth (P := P) (w := w) (base := base) T 4
  have G_law_draw := ok_law_draw (P := P) (w := w) (base := base) T
  have G_law_both_right := ok_law_both_right (P := P) (w := w) (base := base) T
  refine mkG (T.at_ (st := s_law_right) 55) sc_law_right (fun _ _ _ _ _ _ us hl => match us, hl with | [_], _ => rfl) (fun vs H Q E h => ?_) fun cdv A outer s H vs Q E hr gs h => ?_
  · obtain ⟨d, c, l, N, rfl, _⟩ := h
    rfl
  obtain ⟨d, c, l, N, rfl, hd, hN, q⟩ := h
  refine ⟨_, pss_cons (ps_asg (pc G_law_tables hr (pa_cons (pv 0) (pa_cons pe_int pa_nil))) (pg_tup rfl (pgs_cons (pg_name (i := 1) sc_law_right.nd rfl (Or.inl rfl)) (pgs_cons (pg_name (i := 2) sc_law_right.nd rfl (Or.inl rfl)) pgs_nil))))
    <| pss_cons (ps_set (i := 3) sc_law_right.nd rfl (Or.inl rfl) (pc G_law_put_values hr (pa_cons (pv 1) (pa_cons (pv 2) pa_nil))))
    <| pss_cons (ps_if (pt_not (pt_val (pcG G_law_like hr gs (pa_cons (pc G_put_in hr (pa_cons (pv 1) (pa_cons (pv 2) pa_nil))) (pa_cons (pe_tup (pa_cons (pe_op op_mul (pIx K (pv 1) pe_int) (pIx K (pv 2) pe_int)) (pa_cons (pv 3) pa_nil))) pa_nil))))) (pss_one (ps_ret pe_bl)) pss_nil)
    <| pss_cons (ps_asg (pe_tup (pa_cons (pc G_law_made hr (pa_cons (pv 0) (pa_cons (pc G_law_all_signs hr (pa_cons (pIx K (pv 1) pe_int) pa_nil)) (pa_cons pe_int pa_nil)))) (pa_cons (pc G_law_made hr (pa_cons (pv 0) (pa_cons (pc G_law_all_signs hr (pa_cons (pIx K (pv 2) pe_int) pa_nil)) (pa_cons pe_int pa_nil)))) pa_nil))) (pg_tup rfl (pgs_cons (pg_name (i := 4) sc_law_right.nd rfl (Or.inr rfl)) (pgs_cons (pg_name (i := 5) sc_law_right.nd rfl (Or.inr rfl)) pgs_nil))))
    <| pss_cons (ps_par (i := 6) (j := 7) (by rfl) sc_law_right.nd rfl rfl (by decide) rfl rfl (pa_cons (pc G_put_formula hr (pa_cons (pIx K (pv 1) pe_int) (pa_cons (pv 4) (pa_cons (pIx K (pv 2) pe_int) (pa_cons (pv 5) pa_nil))))) (pa_cons (pe_op op_mul (pIx K (pv 1) pe_int) (pIx K (pv 2) pe_int)) pa_nil)) (by rfl))
    <| pss_cons (ps_if (pt_not (pt_val (pcG G_law_like hr gs (pa_cons (pv 6) (pa_cons (pc G_law_put hr (pa_cons (pv 4) (pa_cons (pIx K (pv 2) pe_int) (pa_cons (pv 5) pa_nil)))) pa_nil))))) (pss_one (ps_ret pe_bl)) pss_nil)
    <| pss_cons (ps_set (i := 8) sc_law_right.nd rfl (Or.inl rfl) (pe_tup (pa_cons (pv 7) (pa_cons (pc G_law_all_signs hr (pa_cons (pv 7) pa_nil)) (pa_cons (pe_tup (pa_cons pe_int pa_nil)) (pa_cons (pe_tup (pa_cons pe_int pa_nil)) pa_nil))))))
    <| pss_cons (ps_set (i := 9) sc_law_right.nd rfl (Or.inl rfl) (pe_lst (pa_cons (pe_tup (pa_cons (pIx K (pv 1) pe_int) (pa_cons (pc G_law_all_signs hr (pa_cons (pIx K (pv 1) pe_int) pa_nil)) (pa_cons (pe_tup (pa_cons pe_int pa_nil)) (pa_cons (pe_tup (pa_cons pe_int pa_nil)) pa_nil))))) (pa_cons (pe_tup (pa_cons (pIx K (pv 2) pe_int) (pa_cons (pc G_law_all_signs hr (pa_cons (pIx K (pv 2) pe_int) pa_nil)) (pa_cons (pe_tup (pa_cons pe_int pa_nil)) (pa_cons (pe_tup (pa_cons pe_int pa_nil)) pa_nil))))) pa_nil))))
    <| pss_cons (ps_par (i := 10) (j := 11) (by rfl) sc_law_right.nd rfl rfl (by decide) rfl rfl (pa_cons (pe_op op_add (pc G_depth_of hr (pa_cons (pIxL K (pv 9) pe_int) (pa_cons (pv 4) pa_nil))) (pc G_depth_of hr (pa_cons (pIxL K (pv 9) pe_int) (pa_cons (pv 5) pa_nil)))) (pa_cons (pc G_leaves_of hr (pa_cons (pIxL K (pv 9) pe_int) (pa_cons (pv 4) pa_nil))) pa_nil)) (by rfl))
    <| pss_cons (ps_set (i := 12) sc_law_right.nd rfl (Or.inl rfl) (pe_lst (pa_cons (pc G_depth_of hr (pa_cons (pv 8) (pa_cons (pv 6) pa_nil))) (pa_cons (pc G_leaves_of hr (pa_cons (pv 8) (pa_cons (pv 6) pa_nil))) pa_nil))))
    <| pss_cons (ps_if (pt_not (pt_val (pcG G_law_like hr gs (pa_cons (pv 12) (pa_cons (pe_lst (pa_cons (pv 10) (pa_cons (pe_op op_mul (pv 11) (pc G_leaves_of hr (pa_cons (pIxL K (pv 9) pe_int) (pa_cons (pv 5) pa_nil)))) pa_nil))) pa_nil))))) (pss_one (ps_ret pe_bl)) pss_nil)
    <| pss_cons (ps_set (i := 13) sc_law_right.nd rfl (Or.inl rfl) (pTup K T.tuple (pe_lc (own := [("_law_line", 16)]) (g := gName 16) rfl sc_law_right.nd (pi_range1 rfl T.range (pa_cons (pc G_law_power hr (pa_cons (pIx K (pv 2) pe_int) pa_nil)) pa_nil)) (blkOk_by (N := n_law_right) (sc := defScope s_law_right) (by decide +kernel)) (fun _ _ _ _ _ => (pg_name (i := 16) sc_law_right.nd rfl (Or.inl rfl))) (fun _ _ _ _ _ => pts_nil) (fun _ _ _ _ _ => (pe_ifExp (pt_val (pc G_law_worth hr (pa_cons (pv 5) (pa_cons (pv 16) pa_nil)))) pe_int pe_int)))))
    <| pss_cons (ps_set (i := 14) sc_law_right.nd rfl (Or.inl rfl) (pTup K T.tuple (pe_lc (own := [("_law_line", 16)]) (g := gName 16) rfl sc_law_right.nd (pi_range1 rfl T.range (pa_cons (pc G_law_power hr (pa_cons (pIx K (pv 1) pe_int) pa_nil)) pa_nil)) (blkOk_by (N := n_law_right) (sc := defScope s_law_right) (by decide +kernel)) (fun _ _ _ _ _ => (pg_name (i := 16) sc_law_right.nd rfl (Or.inl rfl))) (fun _ _ _ _ _ => pts_nil) (fun _ _ _ _ _ => (pe_ifExp (pt_val (pc G_law_worth hr (pa_cons (pv 4) (pa_cons (pv 16) pa_nil)))) pe_int pe_int)))))
    <| pss_cons (ps_set (i := 15) sc_law_right.nd rfl (Or.inl rfl) (pc G_law_put_values hr (pa_cons (pe_tup (pa_cons (pIx K (pv 1) pe_int) (pa_cons (pv 14) pa_nil))) (pa_cons (pe_tup (pa_cons (pIx K (pv 2) pe_int) (pa_cons (pv 13) pa_nil))) pa_nil))))
    <| pss_cons (ps_set (i := 16) sc_law_right.nd rfl (Or.inl rfl) (pc G_law_draw hr (pa_cons (pv 0) (pa_cons (pLen K T.len (pv 15)) pa_nil))))
    <| pss_cons (ps_if (pt_not (pt_val (pcG G_law_like hr gs (pa_cons (pc G_value_of hr (pa_cons (pv 8) (pa_cons (pv 6) (pa_cons (pv 16) pa_nil)))) (pa_cons (pe_cmpR op_eq (pIx K (pv 15) (pv 16)) pe_int (nomark _)) pa_nil))))) (pss_one (ps_ret pe_bl)) pss_nil)
    <| pss_one (ps_ret (pc G_law_both_right hr (pa_cons (pv 0) (pa_cons (pv 1) (pa_cons (pv 2) pa_nil))))), ?_⟩
  -- the tables
  refine seqW (P := fun σ H1 => (∃ u v n m A B, σ = [some (.ref d), some u, some v, none, none, none, none, none, none, none, none, none, none, none, none, none, none] ∧ Two H1 u v n A m B ∧ n ≤ 4 ∧ m ≤ 4) ∧ Dr H1 d c l (N + 1000) ∧ Kp d l H H1) (fun R hR => ?_) fun σ H1 h => ?_
  · exact ⟨_, rfl, d, c, l, N, rfl, hd, by omega, fun p u v n m A B H1 d1 k1 hp tt n4 m4 => ⟨p, _, rfl, SqT.of hp, rfl, _, _, rfl, _, _, rfl, rfl, hR _ _ ⟨⟨u, v, n, m, A, B, rfl, tt, n4, m4⟩, d1, k1⟩⟩⟩
  obtain ⟨⟨u, v, n, m, A', B', rfl, tt, n4, m4⟩, d1, k1⟩ := h
  obtain ⟨hu, hv, n1, m1, nm, hA, hB⟩ := id tt
  obtain ⟨a, b, rfl, ha, hb⟩ := hu.tabE
  obtain ⟨c1, c2, rfl, hc, hc2⟩ := hv.tabE
  have enm : (n : Int) * (m : Int) = ((n * m : Nat) : Int) := (Int.natCast_mul n m).symm
  have nm1 : 1 ≤ n * m := Nat.mul_le_mul n1 m1
  have lt : (tin n A' m B').length ≤ 256 := by
    rw [tin_length]
    exact Nat.le_trans (Nat.pow_le_pow_right (by decide) nm) (by decide)
  refine seqW (P := fun σ H2 => (∃ dv, σ = [some (.ref d), some (.ref a), some (.ref c1), some dv, none, none, none, none, none, none, none, none, none, none, none, none, none] ∧ Tp H2 dv (dI (zo (tin n A' m B')))) ∧ Same H1 H2) (fun R hR => ?_) fun σ H2 h => ?_
  · exact ⟨_, rfl, _, rfl, n, m, A', B', .ref a, .ref c1, rfl, tt, fun r H2 g2 tr => hR _ _ ⟨⟨r, rfl, tr⟩, g2⟩⟩
  obtain ⟨⟨dv, rfl, tdv⟩, g2⟩ := h
  refine seqW (P := fun σ H3 => σ = [some (.ref d), some (.ref a), some (.ref c1), some dv, none, none, none, none, none, none, none, none, none, none, none, none, none] ∧ Same H1 H3) (fun R hR => ?_) fun σ H3 h => ?_
  · refine ⟨_, rfl, _, rfl, n, m, A', B', .ref a, .ref c1, rfl, tt.mono g2, fun r H3 g3 tr => ?_⟩
    have g13 := g2.trans g3
    refine ⟨_, rfl, a, _, _, _, rfl, rfl, SqT.of (g13 _ _ ha), rfl, _, rfl, c1, _, _, _, rfl, rfl, SqT.of (g13 _ _ hc), rfl, _, _, rfl, rfl, .inl ⟨by omega, by omega⟩, _, rfl, sz (by show 2 ≤ 100000; decide), fun p hp => ?_⟩
    have s4 := sNew (o := .tup [.int ((n : Int) * (m : Int)), dv]) hp
    have t4 : Tp (upd H3 p (.tup [.int ((n : Int) * (m : Int)), dv])) (.ref p) (dT (n * m) (tin n A' m B')) :=
      .tup upd_same (.cons (by rw [enm]; exact .int _) (.cons (tpS (g3.trans s4) tdv) .nil))
    obtain ⟨ra, rx, ry, rfl, _⟩ := tr.two
    refine ⟨.ref ra, .ref p, _, rfl, dp (tpS s4 tr), dp t4, .inr ⟨⟨_, rfl⟩, ⟨_, rfl⟩, (nice_dT (by omega) lt).mono (by decide) (by decide)⟩, _, rfl, iteF (hR _ _ ⟨rfl, g13.trans s4⟩)⟩
  obtain ⟨rfl, g3⟩ := h
  -- two formulas
  refine seqW (P := fun σ H4 => (∃ x y f g, σ = [some (.ref d), some (.ref a), some (.ref c1), some dv, some x, some y, none, none, none, none, none, none, none, none, none, none, none] ∧ (Fm.ok n f ∧ f.dep ≤ 3 ∧ Tp H4 x (dF f)) ∧ (Fm.ok m g ∧ g.dep ≤ 3 ∧ Tp H4 y (dF g))) ∧ Dr H4 d c l (N + 1100) ∧ Kp d l H1 H4) (fun R hR => ?_) fun σ H4 h => ?_
  · have mc3 : mc 3 = 30 := by decide
    refine ⟨_, rfl, _, rfl, a, _, _, _, rfl, rfl, SqT.of (g3 _ _ ha), rfl, n, rfl, by omega, fun r4 H4 g4 t4 => ?_⟩
    have d4 := d1.same (g3.trans g4)
    refine ⟨d, c, l, N + 1000, n, 3, r4, rfl, by decide, d4, by omega, n1, by omega, t4, fun f x H5 okf df d5 k5 tx => ?_⟩
    have k15 := (kp (d := d) (l := l) (g3.trans g4)).trans k5
    refine ⟨_, rfl, _, rfl, c1, _, _, _, rfl, rfl, SqT.of (d1.tup k15 hc), rfl, m, rfl, by omega, fun r6 H6 g6 t6 => ?_⟩
    refine ⟨d, c, l, N + 1000 + mc 3, m, 3, r6, rfl, by decide, d5.same g6, by omega, m1, by omega, t6, fun g y H7 okg dg d7 k7 ty => ?_⟩
    refine ⟨sz (by show 2 ≤ 100000; decide), fun p hp => ?_⟩
    have s8 := sNew (o := .tup [x, y]) hp
    refine ⟨p, _, rfl, SqT.of upd_same, rfl, _, _, rfl, _, _, rfl, rfl, hR _ _ ⟨⟨x, y, f, g, rfl, ⟨okf, df, tpS s8 (tp ((d5.same g6).kt k7) (tpS g6 tx))⟩, okg, dg, tpS s8 ty⟩, (d7.two hp).more (by omega), k15.trans ((kp g6).trans (k7.trans (kp s8)))⟩⟩
  obtain ⟨⟨x, y, f, g, rfl, ⟨okf, df, tx⟩, okg, dg, ty⟩, d4, k4⟩ := h
  have ha := d1.tup k4 ha
  have hb := d1.tup k4 hb
  have hc := d1.tup k4 hc
  have hc2 := d1.tup k4 hc2
  have tt : Two H4 (.ref a) (.ref c1) n A' m B' := ⟨tp (d1.kt k4) hu, tp (d1.kt k4) hv, n1, m1, nm, hA, hB⟩
  have lf : f.lvs ≤ 8 := Nat.le_trans f.lvs_le (Nat.le_trans (Nat.pow_le_pow_right (by decide) df) (by decide))
  have lg : g.lvs ≤ 8 := Nat.le_trans g.lvs_le (Nat.le_trans (Nat.pow_le_pow_right (by decide) dg) (by decide))
  have lfg : f.lvs * g.lvs ≤ 64 := Nat.mul_le_mul lf lg
  have okF : Fm.ok (n * m) (Fm.put m g f) := Fm.put_ok g okg f okf
  have dpF := Fm.put_dep m g f
  have lvF := Fm.put_lvs m g f
  refine seqW (P := fun σ H5 => (∃ wv, σ = [some (.ref d), some (.ref a), some (.ref c1), some dv, some x, some y, some wv, some (.int ((n * m : Nat) : Int)), none, none, none, none, none, none, none, none, none] ∧ Tp H5 wv (dF (Fm.put m g f))) ∧ Same H4 H5) (fun R hR => ?_) fun σ H5 h => ?_
  · refine ⟨_, rfl, a, _, _, _, rfl, rfl, SqT.of ha, rfl, _, rfl, _, rfl, c1, _, _, _, rfl, rfl, SqT.of hc, rfl, _, rfl, n, m, f, g, x, y, rfl, n1, m1, nm, tx, okf, ty, okg, by omega, by omega, fun r H5 g5 tr => ?_⟩
    refine ⟨_, rfl, a, _, _, _, rfl, rfl, SqT.of (g5 _ _ ha), rfl, _, rfl, c1, _, _, _, rfl, rfl, SqT.of (g5 _ _ hc), rfl, _, _, rfl, rfl, .inl ⟨by omega, by omega⟩, _, _, rfl, hR _ _ ⟨⟨r, by rw [← enm] <;> rfl, tr⟩, g5⟩⟩
  obtain ⟨⟨wv, rfl, tw⟩, g5⟩ := h
  refine seqW (P := fun σ H6 => σ = [some (.ref d), some (.ref a), some (.ref c1), some dv, some x, some y, some wv, some (.int ((n * m : Nat) : Int)), none, none, none, none, none, none, none, none, none] ∧ Same H5 H6) (fun R hR => ?_) fun σ H6 h => ?_
  · refine ⟨_, rfl, _, rfl, _, rfl, c1, _, _, _, rfl, rfl, SqT.of (g5 _ _ hc), rfl, _, rfl, m, f, g, x, y, rfl, by omega, tpS g5 tx, tpS g5 ty, by omega, by omega, fun r H6 g6 tr => ?_⟩
    have isR : ∀ {H : Hp} {z : V} {e : Fm}, Tp H z (dF e) → ∃ a, z = .ref a := fun {H z e} t => by
      cases e with
      | sg i b =>
        obtain ⟨a, e, _⟩ := t.sgE
        exact ⟨a, e⟩
      | bin o e1 e2 =>
        obtain ⟨a, _, _, e, _⟩ := t.binE
        exact ⟨a, e⟩
    have nn : Nice (dF (Fm.put m g f)) 60 1048576 := (nice_dF (n := n * m) (by omega) _ okF).mono (by omega) (Nat.le_trans (nw_mono (show (Fm.put m g f).dep ≤ 6 by omega)) (by decide))
    exact ⟨wv, r, _, rfl, dp (tpS g6 tw), dp tr, .inr ⟨isR tw, isR tr, nn⟩, _, rfl, iteF (hR _ _ ⟨rfl, g6⟩)⟩
  obtain ⟨rfl, g6⟩ := h
  have tw := tpS g6 tw
  have g46 := g5.trans g6
  -- the questions
  refine seqW (P := fun σ H7 => (∃ q1, σ = [some (.ref d), some (.ref a), some (.ref c1), some dv, some x, some y, some wv, some (.int ((n * m : Nat) : Int)), some (.ref q1), none, none, none, none, none, none, none, none] ∧ Tp H7 (.ref q1) (dQ (n * m) [0] [1])) ∧ Same H6 H7) (fun R hR => ?_) fun σ H7 h => ?_
  · refine ⟨_, rfl, _, rfl, n * m, rfl, nm, fun r H' g' tr => ⟨sz (by show 1 ≤ 100000; decide), fun p1 hp1 => ⟨sz (by show 1 ≤ 100000; decide), fun p2 hp2 => ⟨sz (by show 4 ≤ 100000; decide), fun p3 hp3 => ?_⟩⟩⟩⟩
    obtain ⟨s, t⟩ := tp_quest tr hp1 hp2 hp3
    exact hR _ _ ⟨⟨p3, rfl, t⟩, g'.trans s⟩
  obtain ⟨⟨q1, rfl, tq1⟩, g7⟩ := h
  have g47 := g46.trans g7
  refine seqW (P := fun σ H8 => (∃ pl q2 q3, σ = [some (.ref d), some (.ref a), some (.ref c1), some dv, some x, some y, some wv, some (.int ((n * m : Nat) : Int)), some (.ref q1), some (.ref pl), none, none, none, none, none, none, none] ∧ H8 pl = some (.lst [.ref q2, .ref q3]) ∧ Tp H8 (.ref q2) (dQ n [0] [1]) ∧ Tp H8 (.ref q3) (dQ m [0] [1])) ∧ Same H7 H8) (fun R hR => ?_) fun σ H8 h => ?_
  · refine ⟨_, rfl, a, _, _, _, rfl, rfl, SqT.of (g47 _ _ ha), rfl, _, rfl, a, _, _, _, rfl, rfl, SqT.of (g47 _ _ ha), rfl, n, rfl, by omega, fun r H' g' tr => ⟨sz (by show 1 ≤ 100000; decide), fun p1 hp1 => ⟨sz (by show 1 ≤ 100000; decide), fun p2 hp2 => ⟨sz (by show 4 ≤ 100000; decide), fun p3 hp3 => ?_⟩⟩⟩⟩
    obtain ⟨s, t⟩ := tp_quest tr hp1 hp2 hp3
    generalize upd (upd (upd H' p1 (.tup [.int 0])) p2 (.tup [.int 1])) p3 (.tup [.int (n : Int), r, .ref p1, .ref p2]) = H9 at s t
    have g9 := g'.trans s
    have cc := (g47.trans g9) _ _ hc
    refine ⟨_, rfl, c1, _, _, _, rfl, rfl, SqT.of cc, rfl, _, rfl, c1, _, _, _, rfl, rfl, SqT.of cc, rfl, m, rfl, by omega, fun r2 H10 g10 tr2 => ⟨sz (by show 1 ≤ 100000; decide), fun p4 hp4 => ⟨sz (by show 1 ≤ 100000; decide), fun p5 hp5 => ⟨sz (by show 4 ≤ 100000; decide), fun p6 hp6 => ?_⟩⟩⟩⟩
    obtain ⟨s2, t2⟩ := tp_quest tr2 hp4 hp5 hp6
    generalize upd (upd (upd H10 p4 (.tup [.int 0])) p5 (.tup [.int 1])) p6 (.tup [.int (m : Int), r2, .ref p4, .ref p5]) = H11 at s2 t2
    refine ⟨sz (by show 2 ≤ 100000; decide), fun p7 hp7 => ?_⟩
    have s7 := sNew (o := .lst [.ref p3, .ref p6]) hp7
    exact hR _ _ ⟨⟨p7, p3, p6, rfl, upd_same, tpS (g10.trans (s2.trans s7)) t, tpS s7 t2⟩, g9.trans (g10.trans (s2.trans s7))⟩
  obtain ⟨⟨pl, q2, q3, rfl, hpl, tq2, tq3⟩, g8⟩ := h
  have g48 := g47.trans g8
  have A1 : Asks H8 (.ref q1) wv (n * m) (Fm.put m g f) := ⟨tpS g8 tq1, nm1, nm, tpS (g7.trans g8) tw, okF, by omega, by omega⟩
  have A2 : Asks H8 (.ref q2) x n f := ⟨tq2, n1, by omega, tpS g48 tx, okf, by omega, by omega⟩
  have A3 : Asks H8 (.ref q3) y m g := ⟨tq3, m1, by omega, tpS g48 ty, okg, by omega, by omega⟩
  have mono : ∀ {H H' : Hp} {q v : V} {k : Nat} {e : Fm}, Same H H' → Asks H q v k e → Asks H' q v k e := fun s ⟨h1, h2, h3, h4, h5⟩ => ⟨tpS s h1, h2, h3, tpS s h4, h5⟩
  -- depths and leaves
  refine seqW (P := fun σ H9 => σ = [some (.ref d), some (.ref a), some (.ref c1), some dv, some x, some y, some wv, some (.int ((n * m : Nat) : Int)), some (.ref q1), some (.ref pl), some (.int ((f.dep : Int) + (g.dep : Int))), some (.int (f.lvs : Int)), none, none, none, none, none] ∧ Same H8 H9) (fun R hR => ?_) fun σ H9 h => ?_
  · refine ⟨_, rfl, pl, _, _, _, rfl, rfl, SqL.of hpl, rfl, _, rfl, n, f, .ref q2, x, rfl, A2, fun H9 g9 => ?_⟩
    refine ⟨_, rfl, pl, _, _, _, rfl, rfl, SqL.of (g9 _ _ hpl), rfl, _, rfl, m, g, .ref q3, y, rfl, mono g9 A3, fun H10 g10 => ?_⟩
    refine ⟨_, _, rfl, rfl, _, rfl, pl, _, _, _, rfl, rfl, SqL.of (g10 _ _ (g9 _ _ hpl)), rfl, _, rfl, n, f, .ref q2, x, rfl, mono (g9.trans g10) A2, fun H11 g11 => ?_⟩
    exact ⟨_, _, rfl, hR _ _ ⟨rfl, g9.trans (g10.trans g11)⟩⟩
  obtain ⟨rfl, g9⟩ := h
  refine seqW (P := fun σ H10 => (∃ gl, σ = [some (.ref d), some (.ref a), some (.ref c1), some dv, some x, some y, some wv, some (.int ((n * m : Nat) : Int)), some (.ref q1), some (.ref pl), some (.int ((f.dep : Int) + (g.dep : Int))), some (.int (f.lvs : Int)), some (.ref gl), none, none, none, none] ∧ H10 gl = some (.lst [.int ((Fm.put m g f).dep : Int), .int ((Fm.put m g f).lvs : Int)])) ∧ Same H8 H10) (fun R hR => ?_) fun σ H10 h => ?_
  · refine ⟨_, rfl, _, rfl, n * m, Fm.put m g f, .ref q1, wv, rfl, mono g9 A1, fun H10 g10 => ?_⟩
    refine ⟨_, rfl, _, rfl, n * m, Fm.put m g f, .ref q1, wv, rfl, mono (g9.trans g10) A1, fun H11 g11 => ⟨sz (by show 2 ≤ 100000; decide), fun p hp => ?_⟩⟩
    exact hR _ _ ⟨⟨p, rfl, upd_same⟩, g9.trans (g10.trans (g11.trans (sNew hp)))⟩
  obtain ⟨⟨gl, rfl, hgl⟩, g10⟩ := h
  refine seqW (P := fun σ H11 => σ = [some (.ref d), some (.ref a), some (.ref c1), some dv, some x, some y, some wv, some (.int ((n * m : Nat) : Int)), some (.ref q1), some (.ref pl), some (.int ((f.dep : Int) + (g.dep : Int))), some (.int (f.lvs : Int)), some (.ref gl), none, none, none, none] ∧ Same H8 H11) (fun R hR => ?_) fun σ H11 h => ?_
  · refine ⟨_, rfl, _, rfl, _, rfl, _, rfl, pl, _, _, _, rfl, rfl, SqL.of (g10 _ _ hpl), rfl, _, rfl, m, g, .ref q3, y, rfl, mono g10 A3, fun H11 g11 => ?_⟩
    refine ⟨_, _, rfl, rfl, .inl ⟨by omega, by omega⟩, sz (by show 2 ≤ 100000; decide), fun p hp => ?_⟩
    have s12 := sNew (o := .lst [.int ((f.dep : Int) + (g.dep : Int)), .int ((f.lvs : Int) * (g.lvs : Int))]) hp
    refine ⟨.ref gl, .ref p, .list [.int ((Fm.put m g f).dep : Int), .int ((Fm.put m g f).lvs : Int)], rfl, .lst (SqL.of (s12 _ _ (g11 _ _ hgl))) (.cons (.int _) (.cons (.int _) .nil)), ?_, .inr ⟨⟨_, rfl⟩, ⟨_, rfl⟩, ?_⟩, _, rfl, iteF (hR _ _ ⟨rfl, g10.trans (g11.trans s12)⟩)⟩
    · rw [dpF, lvF, Int.natCast_add, Int.natCast_mul]
      exact .lst (SqL.of upd_same) (.cons (.int _) (.cons (.int _) .nil))
    · refine (nice_lst (D := 0) (W := 9) fun d hd => ?_).mono (by decide) (by show 2 * (9 + 1) ≤ _; decide)
      rcases List.mem_cons.mp hd with rfl | hd
      · exact nice_int (by omega)
      · rw [List.mem_singleton.mp hd]
        exact nice_int (by omega)
  obtain ⟨rfl, g11⟩ := h
  have g4b := g48.trans g11
  -- the tables of the two formulas
  refine seqW (P := fun σ H12 => (∃ ip, σ = [some (.ref d), some (.ref a), some (.ref c1), some dv, some x, some y, some wv, some (.int ((n * m : Nat) : Int)), some (.ref q1), some (.ref pl), some (.int ((f.dep : Int) + (g.dep : Int))), some (.int (f.lvs : Int)), some (.ref gl), some (.ref ip), none, none, none] ∧ H12 ip = some (.tup ((zo (tabF m g)).map V.int))) ∧ Same H11 H12) (fun R hR => ?_) fun σ H12 h => ?_
  · have p16 : 2 ^ m ≤ 16 := Nat.le_trans (Nat.pow_le_pow_right (by decide) m4) (by decide)
    refine ⟨_, rfl, c1, _, _, _, rfl, rfl, SqT.of (g4b _ _ hc), rfl, m, rfl, by omega, ((2 ^ m : Nat) : Int), rfl, Int.natCast_nonneg _, by omega, fun D hD => ?_⟩
    refine lc_range (lo := 0) (n := 2 ^ m) (fun i H' => Same H11 H' ∧ H' D = some (.lst (((List.range i).map fun k => ((b2n (g.so k) : Nat) : Int)).map V.int))) ⟨sNew hD, upd_same⟩ (fun i H' hi h => ?_) fun H' h => ?_
    · obtain ⟨g', kD⟩ := h
      have e0 : (0 : Int) + (i : Int) = ((i : Nat) : Int) := Int.zero_add _
      rw [e0]
      refine ⟨rfl, yes ?_⟩
      refine ⟨_, rfl, _, rfl, g, i, y, rfl, tpS (g4b.trans g') ty, Fm.ok_mono (by omega) _ okg, by omega, fun H2 g2 => ⟨_, rfl, ?_⟩⟩
      have kD2 := g2 _ _ kD
      have fin : ∀ z : Int, z = ((b2n (g.so i) : Nat) : Int) → ∃ acc, H2 D = some (.lst acc) ∧ acc.length < sizeLine ∧ (Same H11 (upd H2 D (.lst (acc ++ [V.int z]))) ∧ (upd H2 D (.lst (acc ++ [V.int z]))) D = some (.lst (((List.range (i + 1)).map fun k => ((b2n (g.so k) : Nat) : Int)).map V.int))) := by
        intro z ez
        refine ⟨_, kD2, szl (by simp; omega), sUp (g'.trans g2) hD, ?_⟩
        rw [upd_same, rg_succ, List.map_append, ez]
        rfl
      cases z : g.so i with
      | true => exact iteT (fin 1 (by rw [z] <;> rfl))
      | false => exact iteF (fin 0 (by rw [z] <;> rfl))
    · obtain ⟨g', kD⟩ := h
      rw [← zo_tabF] at kD
      exact ⟨D, _, rfl, .inl ⟨SqL.of kD, fun p hp => hR _ _ ⟨⟨p, rfl, upd_same⟩, g'.trans (sNew hp)⟩⟩⟩
  obtain ⟨⟨ip, rfl, hip⟩, g12⟩ := h
  have g4c := g4b.trans g12
  refine seqW (P := fun σ H13 => (∃ op, σ = [some (.ref d), some (.ref a), some (.ref c1), some dv, some x, some y, some wv, some (.int ((n * m : Nat) : Int)), some (.ref q1), some (.ref pl), some (.int ((f.dep : Int) + (g.dep : Int))), some (.int (f.lvs : Int)), some (.ref gl), some (.ref ip), some (.ref op), none, none] ∧ H13 op = some (.tup ((zo (tabF n f)).map V.int))) ∧ Same H12 H13) (fun R hR => ?_) fun σ H13 h => ?_
  · have p16 : 2 ^ n ≤ 16 := Nat.le_trans (Nat.pow_le_pow_right (by decide) n4) (by decide)
    refine ⟨_, rfl, a, _, _, _, rfl, rfl, SqT.of (g4c _ _ ha), rfl, n, rfl, by omega, ((2 ^ n : Nat) : Int), rfl, Int.natCast_nonneg _, by omega, fun D hD => ?_⟩
    refine lc_range (lo := 0) (n := 2 ^ n) (fun i H' => Same H12 H' ∧ H' D = some (.lst (((List.range i).map fun k => ((b2n (f.so k) : Nat) : Int)).map V.int))) ⟨sNew hD, upd_same⟩ (fun i H' hi h => ?_) fun H' h => ?_
    · obtain ⟨g', kD⟩ := h
      have e0 : (0 : Int) + (i : Int) = ((i : Nat) : Int) := Int.zero_add _
      rw [e0]
      refine ⟨rfl, yes ?_⟩
      refine ⟨_, rfl, _, rfl, f, i, x, rfl, tpS (g4c.trans g') tx, Fm.ok_mono (by omega) _ okf, by omega, fun H2 g2 => ⟨_, rfl, ?_⟩⟩
      have kD2 := g2 _ _ kD
      have fin : ∀ z : Int, z = ((b2n (f.so i) : Nat) : Int) → ∃ acc, H2 D = some (.lst acc) ∧ acc.length < sizeLine ∧ (Same H12 (upd H2 D (.lst (acc ++ [V.int z]))) ∧ (upd H2 D (.lst (acc ++ [V.int z]))) D = some (.lst (((List.range (i + 1)).map fun k => ((b2n (f.so k) : Nat) : Int)).map V.int))) := by
        intro z ez
        refine ⟨_, kD2, szl (by simp; omega), sUp (g'.trans g2) hD, ?_⟩
        rw [upd_same, rg_succ, List.map_append, ez]
        rfl
      cases z : f.so i with
      | true => exact iteT (fin 1 (by rw [z] <;> rfl))
      | false => exact iteF (fin 0 (by rw [z] <;> rfl))
    · obtain ⟨g', kD⟩ := h
      rw [← zo_tabF] at kD
      exact ⟨D, _, rfl, .inl ⟨SqL.of kD, fun p hp => hR _ _ ⟨⟨p, rfl, upd_same⟩, g'.trans (sNew hp)⟩⟩⟩
  obtain ⟨⟨op, rfl, hop⟩, g13⟩ := h
  have g4d := g4c.trans g13
  refine seqW (P := fun σ H14 => (∃ wp, σ = [some (.ref d), some (.ref a), some (.ref c1), some dv, some x, some y, some wv, some (.int ((n * m : Nat) : Int)), some (.ref q1), some (.ref pl), some (.int ((f.dep : Int) + (g.dep : Int))), some (.int (f.lvs : Int)), some (.ref gl), some (.ref ip), some (.ref op), some (.ref wp), none] ∧ H14 wp = some (.tup ((zo (tin n (tabF n f) m (tabF m g))).map V.int))) ∧ Same H13 H14) (fun R hR => ?_) fun σ H14 h => ?_
  · refine ⟨_, rfl, a, _, _, _, rfl, rfl, SqT.of (g4d _ _ ha), rfl, _, rfl, sz (by show 2 ≤ 100000; decide), fun p1 hp1 => ?_⟩
    have s1 := sNew (o := .tup [.int (n : Int), .ref op]) hp1
    refine ⟨_, rfl, c1, _, _, _, rfl, rfl, SqT.of (s1 _ _ (g4d _ _ hc)), rfl, _, rfl, sz (by show 2 ≤ 100000; decide), fun p2 hp2 => ?_⟩
    have s2 := sNew (o := .tup [.int (m : Int), .ref ip]) hp2
    refine ⟨n, m, tabF n f, tabF m g, .ref p1, .ref p2, rfl, ⟨Tp.tab (s2 _ _ upd_same) (s2 _ _ (s1 _ _ hop)), Tp.tab upd_same (s2 _ _ (s1 _ _ (g13 _ _ hip))), n1, m1, nm, tabF_length _ _, tabF_length _ _⟩, fun r H' g' tr => ?_⟩
    obtain ⟨wp, rfl, hwp⟩ := tr.intsE
    exact hR _ _ ⟨⟨wp, rfl, hwp⟩, s1.trans (s2.trans g')⟩
  obtain ⟨⟨wp, rfl, hwp⟩, g14⟩ := h
  have g4e := g4d.trans g14
  have d14 := d4.same g4e
  have lw : ((zo (tin n (tabF n f) m (tabF m g))).map V.int).length = 2 ^ (n * m) := by rw [zo_len, tin_length]
  have pw0 := Nat.two_pow_pos (n * m)
  have pw8 : 2 ^ (n * m) ≤ 256 := Nat.le_trans (Nat.pow_le_pow_right (by decide) nm) (by decide)
  refine seqW (P := fun σ H15 => (∃ j : Nat, σ = [some (.ref d), some (.ref a), some (.ref c1), some dv, some x, some y, some wv, some (.int ((n * m : Nat) : Int)), some (.ref q1), some (.ref pl), some (.int ((f.dep : Int) + (g.dep : Int))), some (.int (f.lvs : Int)), some (.ref gl), some (.ref ip), some (.ref op), some (.ref wp), some (.int ((j : Nat) : Int))] ∧ j < 2 ^ (n * m)) ∧ Dr H15 d c l (N + 1101) ∧ Kp d l H14 H15) (fun R hR => ?_) fun σ H15 h => ?_
  · refine ⟨_, rfl, _, rfl, wp, _, rfl, .inr (SqT.of hwp), d, c, l, N + 1100, _, rfl, d14, by omega, by rw [lw]; omega, by rw [lw]; omega, fun r H15 r0 r1 d15 k15 => ?_⟩
    obtain ⟨j, rfl⟩ := Int.eq_ofNat_of_zero_le r0
    rw [lw] at r1
    exact hR _ _ ⟨⟨j, rfl, Int.ofNat_lt.mp r1⟩, d15, k15⟩
  obtain ⟨⟨j, rfl, hj⟩, d15, k15⟩ := h
  have k4f : Kp d l H4 H15 := (kp g4e).trans k15
  have A4 : Asks H15 (.ref q1) wv (n * m) (Fm.put m g f) := by
    obtain ⟨h1, h2, h3, h4, h5⟩ := mono (g11.trans (g12.trans (g13.trans g14))) A1
    exact ⟨tp (d14.kt k15) h1, h2, h3, tp (d14.kt k15) h4, h5⟩
  refine seqW (P := fun σ H16 => σ = [some (.ref d), some (.ref a), some (.ref c1), some dv, some x, some y, some wv, some (.int ((n * m : Nat) : Int)), some (.ref q1), some (.ref pl), some (.int ((f.dep : Int) + (g.dep : Int))), some (.int (f.lvs : Int)), some (.ref gl), some (.ref ip), some (.ref op), some (.ref wp), some (.int ((j : Nat) : Int))] ∧ Same H15 H16) (fun R hR => ?_) fun σ H16 h => ?_
  · refine ⟨_, rfl, _, rfl, _, rfl, n * m, j, Fm.put m g f, .ref q1, wv, rfl, A4, hj, fun H16 g16 => ?_⟩
    have hx : ((zo (tin n (tabF n f) m (tabF m g))).map V.int)[j]? = some (.int (b2n ((Fm.put m g f).so j) : Int)) := by
      rw [zo_at (by rw [tin_length]; exact hj), at_tin hj, put_tab okf okg]
    refine ⟨_, rfl, _, rfl, wp, _, _, _, rfl, rfl, SqT.of (g16 _ _ (d14.tup k15 hwp)), atI_nat hx, rfl, ?_⟩
    rw [b2n_one]
    exact ⟨_, _, .bool ((Fm.put m g f).so j), rfl, .bl _, .bl _, .inl ⟨_, rfl⟩, _, rfl, iteF (hR _ _ ⟨rfl, g16⟩)⟩
  obtain ⟨rfl, g16⟩ := h
  have k4g := k4f.trans (kp g16)
  exact ⟨_, rfl, _, rfl, _, rfl, d, c, l, N + 1101, n, m, A', B', .ref a, .ref c1, rfl, d15.same g16, by omega, ⟨tp (d4.kt k4g) tt.1, tp (d4.kt k4g) tt.2.1, tt.2.2⟩, n4, m4, fun H' d' k' => q H' (d'.more (by omega)) (k1.trans (k4.trans (k4g.trans k')))⟩
end
end Sb


namespace Sb
open PySem PySem.Spec
open PyProof.Rows L2
section
variable {P : Program} {w : World} {K : PySem.W.Frag} {mg : Str → Option Value} {base : Heap}

abbrev n_law : List Str := ["_law_script", "_law_state", "_law_turn", "_law_both", "_law_got"]
theorem sc_law : FnScope n_law ["_law_script"] (defScope s_law) := ⟨rfl, rfl, rfl, by decide +kernel, rfl, by decide +kernel, by decide +kernel⟩
def spLaw (K : PySem.W.Frag) : Sp := fun vs H Q _ => ∃ (a : Addr) (ns : List Int), vs = [.ref a] ∧ SqL K H a (ns.map V.int) ∧ ns.length ≤ 63 ∧ ∀ H', Q (.bl true) H'
theorem ok_law (T : Top K mg) : OkG P w K mg base 128 "law" ["_law_script"] (spLaw K) := by
  have G_law_begin := ok_law_begin (P := P) (w := w) (base := base) T
  have G_law_right := ok_law_right (P := P) (w := w) (base := base) T
  have G_put_in := ok_put_in (P := P) (w := w) (base := base) T
  have G_put_formula := ok_put_formula (P := P) (w := w) (base := base) T
  have G_law_like := ok_law_like (P := P) (w := w) (base := base) T
  refine mkG (T.at_ (st := s_law) 56) sc_law (fun _ _ _ _ _ _ us hl => match us, hl with | [_], _ => rfl) (fun vs H Q E h => ?_) fun cdv A outer s H vs Q E hr gs h => ?_
  · obtain ⟨a, ns, rfl, _⟩ := h
    rfl
  obtain ⟨a, ns, rfl, hS, h63, q⟩ := h
  refine ⟨_, pss_cons (ps_set (i := 1) sc_law.nd rfl (Or.inl rfl) (pc G_law_begin hr (pa_cons (pv 0) pa_nil)))
    <| pss_cons (ps_for PassesOwn.never rfl (pi_range1 rfl T.range (pa_cons pe_int pa_nil)) (pg_name (i := 2) sc_law.nd rfl (Or.inl rfl)) (pss_one (ps_if (pt_not (pt_val (pcG G_law_right hr gs (pa_cons (pv 1) pa_nil)))) (pss_one (ps_ret pe_bl)) pss_nil)))
    <| pss_cons (ps_set (i := 3) sc_law.nd rfl (Or.inl rfl) (pcW (ks := ["inner", "outer"]) G_put_in (T.at_ (st := s_put_in) 29) (fun _ _ _ _ _ _ ws hl => match ws, hl with | [_, _], _ => rfl) hr (pk_cons (pe_tup (pa_cons pe_int (pa_cons (pe_tup (pa_cons pe_int (pa_cons pe_int (pa_cons pe_int (pa_cons pe_int pa_nil))))) pa_nil))) (pk_cons (pe_tup (pa_cons pe_int (pa_cons (pe_tup (pa_cons pe_int (pa_cons pe_int (pa_cons pe_int (pa_cons pe_int pa_nil))))) pa_nil))) pk_nil))))
    <| pss_cons (ps_set (i := 4) sc_law.nd rfl (Or.inl rfl) (pe_lst (pa_cons (pIx K (pv 3) pe_int) (pa_cons (pIx K (pIx K (pv 3) pe_int) pe_int) (pa_cons (pcW (ks := ["inner", "inner_many", "formula", "many"]) G_put_formula (T.at_ (st := s_put_formula) 30) (fun _ _ _ _ _ _ ws hl => match ws, hl with | [_, _, _, _], _ => rfl) hr (pk_cons (pe_tup (pa_cons pe_str (pa_cons (pe_tup (pa_cons pe_int (pa_cons pe_int pa_nil))) (pa_cons (pe_tup (pa_cons pe_int (pa_cons pe_int pa_nil))) pa_nil)))) (pk_cons pe_int (pk_cons (pe_tup (pa_cons pe_int (pa_cons pe_int pa_nil))) (pk_cons pe_int pk_nil))))) pa_nil)))))
    <| pss_one (ps_ret (pcG G_law_like hr gs (pa_cons (pv 4) (pa_cons (pe_lst (pa_cons pe_int (pa_cons pe_int (pa_cons (pe_tup (pa_cons pe_str (pa_cons (pe_tup (pa_cons pe_int (pa_cons pe_int pa_nil))) (pa_cons (pe_tup (pa_cons pe_int (pa_cons pe_int pa_nil))) pa_nil)))) pa_nil)))) pa_nil)))), ?_⟩
  refine seqW (P := fun σ H1 => ∃ d c l, σ = [some (.ref a), some (.ref d), none, none, none] ∧ Dr H1 d c l 0) (fun R hR => ?_) fun σ H1 h => ?_
  · exact ⟨_, rfl, a, ns, rfl, hS, h63, fun d c l H1 g1 d1 => hR _ _ ⟨d, c, l, rfl, d1⟩⟩
  obtain ⟨d, c, l, rfl, d1⟩ := h
  refine seqW (P := fun σ H2 => ∃ x, σ = [some (.ref a), some (.ref d), x, none, none]) (fun R hR => ?_) fun σ H2 h => ?_
  · refine ⟨(4 : Int), rfl, by decide, by decide, ?_⟩
    refine for_range (lo := 0) (n := 4) (fun i σ H' => Dr H' d c l (i * 4000000) ∧ ∃ x, σ = [some (.ref a), some (.ref d), x, none, none]) ⟨d1, _, rfl⟩ (fun i σ H' hi h => ?_) fun σ H' h => ?_
    · obtain ⟨d2, x, rfl⟩ := h
      exact ⟨_, rfl, d, c, l, i * 4000000, rfl, d2, by omega, fun H3 d3 k3 => ⟨_, rfl, iteF ⟨d3.more (by omega), _, rfl⟩⟩⟩
    · exact hR _ _ h.2
  obtain ⟨x, rfl⟩ := h
  refine seqW (P := fun σ H3 => ∃ v, σ = [some (.ref a), some (.ref d), x, some v, none] ∧ Tp H3 v (dT (2 * 2) (tin 2 [false, true, true, false] 2 [false, false, false, true]))) (fun R hR => ?_) fun σ H3 h => ?_
  · refine ⟨sz (by show 4 ≤ 100000; decide), fun p1 hp1 => ⟨sz (by show 2 ≤ 100000; decide), fun p2 hp2 => ?_⟩⟩
    refine ⟨sz (by show 4 ≤ 100000; decide), fun p3 hp3 => ⟨sz (by show 2 ≤ 100000; decide), fun p4 hp4 => ?_⟩⟩
    have s2 := sNew (o := .tup [.int 2, .ref p1]) hp2
    have s3 := sNew (o := .tup [.int 0, .int 1, .int 1, .int 0]) hp3
    have s4 := sNew (o := .tup [.int 2, .ref p3]) hp4
    refine ⟨rfl, 2, 2, [false, true, true, false], [false, false, false, true], .ref p4, .ref p2, rfl, ⟨Tp.tab (n := 2) upd_same (s4 _ _ upd_same), Tp.tab (n := 2) (s4 _ _ (s3 _ _ upd_same)) (s4 _ _ (s3 _ _ (s2 _ _ upd_same))), by decide, by decide, by decide, rfl, rfl⟩, fun r H4 g4 tr => hR _ _ ⟨r, rfl, tr⟩⟩
  obtain ⟨v, rfl, tv⟩ := h
  obtain ⟨ra, rb, rfl, hra, hrb⟩ := tv.tabE
  have e7 : Sb.at_ (tin 2 [false, true, true, false] 2 [false, false, false, true]) 7 = true := by decide +kernel
  have h7 : ((zo (tin 2 [false, true, true, false] 2 [false, false, false, true])).map V.int)[7]? = some (.int 1) := by
    rw [zo_at (by rw [tin_length]; decide), e7]
    rfl
  refine seqW (P := fun σ H4 => ∃ gl r, σ = [some (.ref a), some (.ref d), x, some (.ref ra), some (.ref gl)] ∧ H4 gl = some (.lst [.int 4, .int 1, r]) ∧ Tp H4 r (dF (.bin false (.sg 2 false) (.sg 3 true)))) (fun R hR => ?_) fun σ H4 h => ?_
  · refine ⟨_, rfl, ra, _, _, _, rfl, rfl, SqT.of hra, rfl, _, rfl, ra, _, _, _, rfl, rfl, SqT.of hra, rfl, rb, _, _, _, rfl, rfl, SqT.of hrb, atI_nat (j := 7) h7, ?_⟩
    refine ⟨sz (by show 2 ≤ 100000; decide), fun p5 hp5 => ⟨sz (by show 2 ≤ 100000; decide), fun p6 hp6 => ⟨sz (by show 3 ≤ 100000; decide), fun p7 hp7 => ⟨sz (by show 2 ≤ 100000; decide), fun p8 hp8 => ?_⟩⟩⟩⟩
    have s6 := sNew (o := .tup [.int 1, .int 0]) hp6
    have s7 := sNew (o := .tup [.str "or", .ref p5, .ref p6]) hp7
    have s8 := sNew (o := .tup [.int 1, .int 0]) hp8
    refine ⟨rfl, 2, 2, .sg 1 false, .bin true (.sg 0 true) (.sg 1 false), .ref p8, .ref p7, rfl, by decide, by decide, by decide, .tup upd_same (.cons (.int _) (.cons (.int _) .nil)), (show 1 < 2 by decide), .tup (s8 _ _ upd_same) (.cons (.str _) (.cons (.tup (s8 _ _ (s7 _ _ (s6 _ _ upd_same))) (.cons (.int _) (.cons (.int _) .nil))) (.cons (.tup (s8 _ _ (s7 _ _ upd_same)) (.cons (.int _) (.cons (.int _) .nil))) .nil))), ⟨show 0 < 2 by decide, show 1 < 2 by decide⟩, by decide, by decide, fun r H9 g9 tr => ?_⟩
    exact ⟨sz (by show 3 ≤ 100000; decide), fun p9 hp9 => hR _ _ ⟨p9, r, rfl, upd_same, tpS (sNew hp9) tr⟩⟩
  obtain ⟨gl, r, rfl, hgl, tr⟩ := h
  refine ⟨_, rfl, sz (by show 2 ≤ 100000; decide), fun p1 hp1 => ⟨sz (by show 2 ≤ 100000; decide), fun p2 hp2 => ⟨sz (by show 3 ≤ 100000; decide), fun p3 hp3 => ⟨sz (by show 3 ≤ 100000; decide), fun p4 hp4 => ?_⟩⟩⟩⟩
  have s1 := sNew (o := .tup [.int 2, .int 0]) hp1
  have s2 := sNew (o := .tup [.int 3, .int 1]) hp2
  have s3 := sNew (o := .tup [.str "and", .ref p1, .ref p2]) hp3
  have s4 := sNew (o := .lst [.int 4, .int 1, .ref p3]) hp4
  have s14 := s1.trans (s2.trans (s3.trans s4))
  refine ⟨.ref gl, .ref p4, .list [.int 4, .int 1, dF (.bin false (.sg 2 false) (.sg 3 true))], rfl, .lst (SqL.of (s14 _ _ hgl)) (.cons (.int _) (.cons (.int _) (.cons (dp (tpS s14 tr)) .nil))), .lst (SqL.of upd_same) (.cons (.int _) (.cons (.int _) (.cons (dp ?_) .nil))), .inr ⟨⟨_, rfl⟩, ⟨_, rfl⟩, ?_⟩, q _⟩
  · exact .tup (s4 _ _ upd_same) (.cons (.str _) (.cons (.tup (s4 _ _ (s3 _ _ (s2 _ _ upd_same))) (.cons (.int _) (.cons (.int _) .nil))) (.cons (.tup (s4 _ _ (s3 _ _ upd_same)) (.cons (.int _) (.cons (.int _) .nil))) .nil)))
  · refine (nice_lst (D := 2) (W := 63) fun d hd => ?_).mono (by decide) (by show 3 * (63 + 1) ≤ _; decide)
    rcases List.mem_cons.mp hd with rfl | hd
    · exact (nice_int (i := 4) (by decide)).mono (by decide) (by decide)
    · rcases List.mem_cons.mp hd with rfl | hd
      · exact (nice_int (i := 1) (by decide)).mono (by decide) (by decide)
      · rw [List.mem_singleton.mp hd]
        exact nice_dF (n := 4) (by decide) (.bin false (.sg 2 false) (.sg 3 true)) ⟨show 2 < 4 by decide, show 3 < 4 by decide⟩
end
end Sb


namespace Sb
open PySem PySem.Spec
open PyProof.Rows L2
theorem dfs_at : ∀ (i : Nat) (d : He.DefD), dfs[i]? = some d → d.at_ = (d.name, none) ∧ He.Fa.glo d.name ∈ fcs := fun i d e => by
  have hm := List.mem_of_getElem? e
  refine ⟨?_, List.mem_append_left _ (List.mem_map.mpr ⟨d, hm, rfl⟩)⟩
  have all : dfs.all (fun d => decide (d.at_ = (d.name, none))) = true := by decide +kernel
  exact of_decide_eq_true (List.all_eq_true.mp all d hm)
theorem top_of {w : World} {K : PySem.W.Frag} {mg : Str → Option Value} {h : Heap} (X : K.In h) (G : h.Ns mainGlobals mg) (c : He.SaysX fcs dfs [] [] exs w h K) : Top K mg := by
  have D := c.t.d
  have ex : He.tupB K "TWOS" (twos.map He.Dv.int) = true ∧ He.tupB K "WORDS" [.str "or", .str "and"] = true := by
    have z : (He.tupB K "TWOS" (twos.map He.Dv.int) && He.tupB K "WORDS" [.str "or", .str "and"]) = true := c.more
    rw [Bool.and_eq_true] at z
    exact z
  exact {
    fn := fun i d e => by
      obtain ⟨h1, h2⟩ := dfs_at i d e
      refine ⟨?_, D.def_ i e⟩
      rw [h1]
      exact He.glo_ok X G (D.facts h2)
    len := He.free_ok X G (D.fact 57 (f := .free "len") rfl)
    range := He.free_ok X G (D.fact 58 (f := .free "range") rfl)
    tuple := He.free_ok X G (D.fact 59 (f := .free "tuple") rfl)
    list := He.free_ok X G (D.fact 60 (f := .free "list") rfl)
    int := He.free_ok X G (D.fact 61 (f := .free "int") rfl)
    str := He.free_ok X G (D.fact 62 (f := .free "str") rfl)
    bool := He.free_ok X G (D.fact 63 (f := .free "bool") rfl)
    isinstance := He.free_ok X G (D.fact 64 (f := .free "isinstance") rfl)
    enumerate := He.free_ok X G (D.fact 65 (f := .free "enumerate") rfl)
    zip := He.free_ok X G (D.fact 66 (f := .free "zip") rfl)
    sum := He.free_ok X G (D.fact 67 (f := .free "sum") rfl)
    max := He.free_ok X G (D.fact 68 (f := .free "max") rfl)
    min := He.free_ok X G (D.fact 69 (f := .free "min") rfl)
    repr := He.free_ok X G (D.fact 70 (f := .free "repr") rfl)
    mq := He.int_ok X G (D.fact 71 (f := .int "MOST_MANY_questions" 8) rfl)
    tf := He.int_ok X G (D.fact 72 (f := .int "MOST_THINGS_formulas" 400) rfl)
    df := He.int_ok X G (D.fact 73 (f := .int "MOST_DEPTH_formulas" 60) rfl)
    mi := He.int_ok X G (D.fact 74 (f := .int "MOST_MANY_inside" 8) rfl)
    ti := He.int_ok X G (D.fact 75 (f := .int "MOST_THINGS_inside" 400) rfl)
    di := He.int_ok X G (D.fact 76 (f := .int "MOST_DEPTH_inside" 60) rfl)
    twos := ⟨_, He.glo_ok X G (D.fact 77 (f := .glo "TWOS") rfl), fun H => He.tupB_ok ex.1 H⟩
    words := ⟨_, He.glo_ok X G (D.fact 78 (f := .glo "WORDS") rfl), fun H => He.tupB_ok ex.2 H⟩ }
theorem room128 : Room 128 callerA := ⟨rfl, by decide, by decide⟩
theorem end_ {q : Program} {loose : List Str} {XP : (Str → Option Value) → Heap → Prop} {YP : World → Heap → Prop} {d : PySem.DefRec} (hdf : d.params.defaults = []) (hn : d.name = ("law" : Str))
    (F : ∀ (w : World) (h : Heap), YP w h → ∃ K : PySem.W.Frag, K.In h ∧ He.SaysX fcs dfs [] [] exs w h K) :
    PySem.W.WalkO q loose XP YP (PySem.W.OpenLaw.row PySem.Challenge.rw_saidbetween_k79_whole_tables_and_formula).toRowW d [] (fun f vs => PySem.call f vs) := by
  refine Att.attach_call (l := PySem.Challenge.rw_saidbetween_k79_whole_tables_and_formula) (n := 63) rfl hdf fun w s₀ s₁ mg mb fa o pm cd doc a vs ns G Y ho hd hcd hmg hobj hints hlen hg => ?_
  obtain ⟨K, KX, c⟩ := F w _ Y
  rw [hn] at hmg
  exact law_g (x := "_law_script") (ln := "law") (sp := spLaw K) KX G.T.g G.T.b G.T.builtins G.T.nolimit hg hobj hints (Nat.le_trans hlen (by decide)) room128 hmg (fun base kb gb => ok_law (top_of KX G.T.g c)) fun H hS _ => ⟨a, ns, rfl, hS, hlen, fun _ => rfl⟩
end Sb


open PySem PySem.W PySem.Calls
open PyProof.Rows
theorem PySem.Challenge.cw_saidbetween_k79_whole_tables_and_formula_holds : PySem.Challenge.rw_saidbetween_k79_whole_tables_and_formula.Holds := by
  w_on; o_law
  refine HandSHeadRun.head_any (r := OpenLaw.row PySem.Challenge.rw_saidbetween_k79_whole_tables_and_formula) (q := view (OpenLaw.row PySem.Challenge.rw_saidbetween_k79_whole_tables_and_formula).prog [75]) (H := Sb.hk) (ob := Sb.ob) (M := 6000) (loose := Sb.nms) (d := HandSHeadRun.topDef (OpenLaw.row PySem.Challenge.rw_saidbetween_k79_whole_tables_and_formula).prog 75) (kwd := []) Sb.ob_eq
    (by kernel_rfl) (fun s => by kernel_rfl) Sb.run (by kernel_rfl) (by kernel_rfl) (by kernel_rfl) (by rfl) (by first | assumption | decide +kernel) (by decide +kernel) ⟨rfl, rfl, rfl, rfl, rfl, by decide +kernel⟩ ?hw ?hc
  case hw => w_witness2
  case hc => exact Sb.end_ (by kernel_rfl) (by kernel_rfl) fun w h Y => Y

