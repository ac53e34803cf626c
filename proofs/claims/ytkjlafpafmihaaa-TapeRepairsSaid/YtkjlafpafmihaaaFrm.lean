/- Contracts: tape.frame, ref.framed. -/
import Derived.Test.YtkjlafpafmihaaaSums
import Derived.Test.YtkjlafpafmihaaaTapeRef
import Derived.Test.YtkjlafpafmihaaaStore
import Derived.Test.YtkjlafpafmihaaaNum
namespace Go.Proofs.Ytkjlafpafmihaaa
open Go.ChangeShapes Go.WideShapes Go.RowKit

def headed (p : List UInt8) : List UInt8 := UInt8.ofNat (p.length / 256) :: UInt8.ofNat (p.length % 256) :: p
/-- P2.3: a payload's frame. -/
def frameM (p : List UInt8) : List UInt8 := headed p ++ be4 (sumM (headed p))
theorem frameM_len (p : List UInt8) : (frameM p).length = p.length + 6 := by simp [frameM, headed, be4]
theorem headed_len (p : List UInt8) : (headed p).length = p.length + 2 := by simp [headed]
theorem be4_cells2 {n : Int} (h0 : 0 ≤ n) (h1 : n ≤ 4294967295) :
    byteCells (be4 n) = [.int .u8 (n / 16777216), .int .u8 (n / 65536 % 256), .int .u8 (n / 256 % 256), .int .u8 (n % 256)] := by
  have key : ∀ m : Int, 0 ≤ m → m ≤ 255 → ((UInt8.ofNat m.toNat).toNat : Int) = m := by
    intro m a b
    simp
    omega
  simp only [byteCells, be4, List.map_cons, List.map_nil]
  rw [key _ (by omega) (by omega), key _ (by omega) (by omega), key _ (by omega) (by omega), key _ (by omega) (by omega)]
theorem sumM_range (l : List UInt8) : 0 ≤ sumM l ∧ sumM l ≤ 4293984240 := by
  unfold sumM
  omega
theorem headed_cells (p : List UInt8) (h : p.length ≤ 65535) : byteCells (headed p) = [.int .u8 ((p.length : Int) / 256), .int .u8 ((p.length : Int) % 256)] ++ byteCells p := by
  simp only [headed, byteCells, List.map_cons, List.cons_append, List.nil_append, List.cons.injEq, Value.int.injEq, true_and, and_true]
  constructor
  · simp
    omega
  · simp
theorem two_bytes (w : World) (a b : Int) : (w.alloc (.cells #[.int .u8 a, .int .u8 b] 5)).ownsRow w.heap.size 5 1 (.slice (some ⟨w.heap.size, 0, none⟩) 2 2) 2 [.int .u8 a, .int .u8 b] :=
  own_new w _ 5 2 1 rfl (by simp [maxLen])
theorem four_bytes (w : World) (s : Int) (h0 : 0 ≤ s) (h1 : s ≤ 4294967295) : Rd (w.alloc (.cells #[.int .u8 (s / 16777216), .int .u8 (s / 65536 % 256), .int .u8 (s / 256 % 256), .int .u8 (s % 256)] 5)) (w.heap.size + 1) 1 (some ⟨w.heap.size, 0, none⟩) 4 (byteCells (be4 s)) := by
  rw [be4_cells2 h0 h1]
  exact Rd.new_ w 5 _ 4 1 rfl

set_option maxRecDepth 100000 in
set_option maxHeartbeats 2000000 in
theorem frame_calls (A : Option Addr) (n c : Nat) (p : List UInt8) (w : World) (h : Rd w w.heap.size 1 A n (byteCells p)) (hn : n ≤ 1000) :
    Calls Try.prog 137 #[.slice A n c] w (OwnPost w 5 1 (frameM p).length (byteCells (frameM p))) := by
  obtain ⟨j0, hj0, zj0, zj1, zj2⟩ := info_parts u8_info
  have hl := h.bytes_len
  subst hl
  have H := Lib.hid h
  have HC := Lib.hid (headed_cells p (by omega))
  have HS := Lib.hid (fun A n c w (h : Rd w w.heap.size 1 A n (byteCells (headed p))) => Sum_calls A n c (headed p) w h (by have := h.bytes_len; have := headed_len p; omega))
  have HF : Hid ((frameM p).length = p.length + 6 ∧ byteCells (frameM p) = byteCells (headed p) ++ byteCells (be4 (sumM (headed p)))) := Lib.hid ⟨frameM_len p, by rw [frameM, byteCells_append]⟩
  obtain ⟨s0, s1⟩ := sumM_range (headed p)
  clear h
  generalize frameM p = z at HF ⊢
  generalize sumM (headed p) = s at HS HF s0 s1
  have H4 := Lib.hid (fun w => four_bytes w s s0 (by omega))
  have H2 := Lib.hid (two_bytes w ((p.length : Int) / 256) ((p.length : Int) % 256))
  go_enter Try.func137, Try.ntmps137
  go_wp2_with (at_builtin; refine wpList_append_any _ rfl (.tmp 12) (.tmp 13) _ rfl w.heap.size 5 j0 _ 1 1 Try.underlying52 hj0 zj0 zj1 zj2 rfl (by omega) (.slice (some ⟨w.heap.size, 0, none⟩) 2 2) 2 _ rfl H2.out w.heap.size A p.length c (byteCells p) rfl (by exact H.out.alloc (Nat.le_refl _) _) (byteCells_one _) (by simp only [maxLen]; omega) (by omega) (by simp) ?_; intro v1 w3 hown1 hg1 hat1; obtain ⟨A4, c4, rfl, _⟩ := own_form hown1; rw [← HC.out] at hown1)
  have HB3 : Hid (Below w.heap.size w w3) := Lib.hid (Below.grown (by go_grown) hg1 (by simp) (fun k hk => by simp [Value.ownBlock] at hk; omega))
  have HO3 := Lib.hid hown1
  have HR3 := Lib.hid (Rd.of_own hown1)
  have hz3 : w.heap.size < w3.heap.size := by have := hg1.size; simp at this; omega
  clear hown1 hg1 hat1
  go_wp2_with fail
  refine (HS.out _ _ _ _ (by exact HR3.out)).mono ?_
  rintro e w4 ⟨rfl, q, rfl⟩
  have HO4 : Hid ((w3.drewN q).ownsRow w.heap.size 5 1 (.slice A4 (2 + p.length) c4) (2 + p.length) (byteCells (headed p))) := HO3
  have HB4 := Lib.hid (bdrewN HB3.out q)
  have hz4 : w.heap.size < (w3.drewN q).heap.size := hz3
  clear HO3 HR3
  generalize w3.drewN q = w4 at HO4 HB4 hz4 ⊢
  go_wp2_with (at_builtin; refine wpList_append_any _ rfl (.tmp 17) (.tmp 29) _ rfl w.heap.size 5 j0 _ 1 1 Try.underlying52 hj0 zj0 zj1 zj2 rfl (by omega) _ (2 + p.length) (byteCells (headed p)) rfl (HO4.out.alloc _) (w4.heap.size + 1) (some ⟨w4.heap.size, 0, none⟩) 4 4 (byteCells (be4 s)) rfl (H4.out w4) (byteCells_one _) (by simp only [maxLen]; omega) (by omega) (by simp; omega) ?_; intro v1 w5 hown1 hg1 hat1; obtain ⟨A5, c5, rfl, _⟩ := own_form hown1; rw [← HF.out.2, show 2 + p.length + 4 = z.length by rw [HF.out.1]; omega] at hown1)
  have HB5 := Lib.hid (((HB4.out.alloc (by omega) _).grown hg1 (by simp; omega) (fun k hk => HO4.out.own_lt k hk)))
  go_ret
  rw [show 2 + p.length + 4 = z.length by rw [HF.out.1]; omega]
  exact ⟨A5, c5, rfl, HB5.out, hown1⟩
theorem headed_take {p : List UInt8} {k : Nat} {x : UInt8} (h : p[k]? = some x) (a b : Value) : [a, b] ++ byteCells (p.take k) ++ byteCells [x] = [a, b] ++ byteCells (p.take (k + 1)) := by
  rw [List.append_assoc, ← byteCells_append, take_snoc' h]
set_option maxRecDepth 100000 in
set_option maxHeartbeats 2000000 in
theorem framed_calls (A : Option Addr) (n c : Nat) (p : List UInt8) (w : World) (h : Rd w w.heap.size 1 A n (byteCells p)) (hn : n ≤ 1000) :
    Calls Try.prog 139 #[.slice A n c] w (OwnPost w 5 1 (frameM p).length (byteCells (frameM p))) := by
  obtain ⟨j0, hj0, zj0, zj1, zj2⟩ := info_parts u8_info
  have hl := h.bytes_len
  subst hl
  have H := Lib.hid h
  have HC := Lib.hid (headed_cells p (by omega))
  have HS := Lib.hid (fun A n c w (h : Rd w w.heap.size 1 A n (byteCells (headed p))) => Summed_calls A n c (headed p) w h (by have := h.bytes_len; have := headed_len p; omega))
  have HF : Hid ((frameM p).length = p.length + 6 ∧ byteCells (frameM p) = byteCells (headed p) ++ byteCells (be4 (sumM (headed p)))) := Lib.hid ⟨frameM_len p, by rw [frameM, byteCells_append]⟩
  obtain ⟨s0, s1⟩ := sumM_range (headed p)
  clear h
  generalize frameM p = z at HF ⊢
  generalize sumM (headed p) = s at HS HF s0 s1
  have H4 := Lib.hid (fun w => four_bytes w s s0 (by omega))
  have H2 : Hid (∀ k : Nat, (w.alloc (.cells #[.int .u8 ((p.length : Int) / 256), .int .u8 ((p.length : Int) % 256)] 5)).ownsRow w.heap.size 5 1 (.slice (some ⟨w.heap.size, 0, none⟩) 2 2) 2 ([.int .u8 ((p.length : Int) / 256), .int .u8 ((p.length : Int) % 256)] ++ byteCells (p.take 0))) := Lib.hid (fun _ => by simpa [byteCells] using two_bytes w ((p.length : Int) / 256) ((p.length : Int) % 256))
  go_enter Try.func139, Try.ntmps139
  go_wp2_with fail
  go_loopw [3, 4] (fun v i wr => ∃ k : Nat, k ≤ p.length ∧ i = .int .i64 k ∧ Below w.heap.size w wr ∧ w.heap.size < wr.heap.size ∧ ∃ A2 c2, v = .slice A2 (2 + k) c2 ∧ wr.ownsRow w.heap.size 5 1 (.slice A2 (2 + k) c2) (2 + k) ([.int .u8 ((p.length : Int) / 256), .int .u8 ((p.length : Int) % 256)] ++ byteCells (p.take k))) (fun _ i _ => p.length - (intOf i).toNat)
  case atStart => exact ⟨0, Nat.zero_le _, rfl, by go_grown, by simp, some ⟨w.heap.size, 0, none⟩, 2, rfl, H2.out 0⟩
  case round =>
    obtain ⟨k, hk, rfl, hB, hzr, A2, c2, rfl, hown⟩ := hrel
    have HB := Lib.hid hB
    have HO := Lib.hid hown
    by_cases hlt : k < p.length
    · obtain ⟨b, off, x, rfl, hb, he, c0⟩ := (H.out.below hB (Nat.le_refl _)).byte_at hlt
      have HP := Lib.hid (headed_take he (.int .u8 ((p.length : Int) / 256)) (.int .u8 ((p.length : Int) % 256)))
      have hx := u8_lt x
      have HN := Lib.hid (byte_new wr x 5)
      clear hB hown he
      go_wp2_with (at_builtin; refine wpList_append_any _ rfl (.tmp 21) (.tmp 26) _ rfl w.heap.size 5 j0 _ 1 1 Try.underlying52 hj0 zj0 zj1 zj2 rfl (by omega) _ (2 + k) _ rfl (HO.out.alloc _) (wr.heap.size + 1) (some ⟨wr.heap.size, 0, none⟩) 1 1 (byteCells [x]) rfl HN.out (byteCells_one _) (by simp only [maxLen]; omega) (by omega) (by simp; omega) ?_; intro v1 w3 hown1 hg1 hat1; obtain ⟨A4, c4, rfl, _⟩ := own_form hown1; rw [HP.out] at hown1)
      have HB3 := Lib.hid ((HB.out.alloc (by omega) _).grown hg1 (by simp; omega) (fun k hk => HO.out.own_lt k hk))
      have HO3 := Lib.hid hown1
      have hz3 : w.heap.size < w3.heap.size := by have := hg1.size; simp at this; omega
      clear hown1 hg1 hat1
      go_wp2_with fail
      go_roundw
      case rel => exact ⟨k + 1, by omega, by go_num, HB3.out, hz3, A4, c4, by rw [Nat.add_assoc], by rw [← Nat.add_assoc]; exact HO3.out⟩
      case measure => simp [intOf]; omega
    · obtain rfl : k = p.length := by omega
      rw [List.take_length, ← HC.out] at HO
      have HR3 := Lib.hid (Rd.of_own HO.out)
      clear hB hown
      go_wp2_with fail
      refine (HS.out _ _ _ _ (by exact HR3.out)).mono ?_
      rintro e w4 ⟨rfl, q, rfl⟩
      have HO4 : Hid ((wr.drewN q).ownsRow w.heap.size 5 1 (.slice A2 (2 + p.length) c2) (2 + p.length) (byteCells (headed p))) := HO
      have HB4 := Lib.hid (bdrewN HB.out q)
      have hz4 : w.heap.size < (wr.drewN q).heap.size := hzr
      clear HO HR3 HB
      generalize wr.drewN q = w4 at HO4 HB4 hz4 ⊢
      go_wp2_with (at_builtin; refine wpList_append_any _ rfl (.tmp 30) (.tmp 45) _ rfl w.heap.size 5 j0 _ 1 1 Try.underlying52 hj0 zj0 zj1 zj2 rfl (by omega) _ (2 + p.length) (byteCells (headed p)) rfl (HO4.out.alloc _) (w4.heap.size + 1) (some ⟨w4.heap.size, 0, none⟩) 4 4 (byteCells (be4 s)) rfl (H4.out w4) (byteCells_one _) (by simp only [maxLen]; omega) (by omega) (by simp; omega) ?_; intro v1 w5 hown1 hg1 hat1; obtain ⟨A5, c5, rfl, _⟩ := own_form hown1; rw [← HF.out.2, show 2 + p.length + 4 = z.length by rw [HF.out.1]; omega] at hown1)
      have HB5 := Lib.hid (((HB4.out.alloc (by omega) _).grown hg1 (by simp; omega) (fun k hk => HO4.out.own_lt k hk)))
      go_ret
      have e6 : 2 + p.length + 4 = z.length := by rw [HF.out.1]; omega
      exact ⟨A5, c5, by simp [e6], HB5.out, hown1⟩
end Go.Proofs.Ytkjlafpafmihaaa
