/- A part of the proof. No statement of the claim is in it. -/
import Derived.Test.YthfjcnjdcljhmaaGreatDoorTgLe0
open Go Go.V Go.Proofs
namespace X
set_option maxRecDepth 100000
namespace TzLe
theorem a90 : gA (tx 9 0) = some (.bool false) := by kernel_rfl
theorem i900 : gE x23 (tx 9 0) 0 = some (eR 0 0) := by kernel_rfl
theorem s900 : gE x36 (tx 9 0) 0 = some (eR 0 0) := by kernel_rfl
theorem i901 : gE x23 (tx 9 0) 1 = some (eR 0 1) := by kernel_rfl
theorem s901 : gE x36 (tx 9 0) 1 = some (eR 0 1) := by kernel_rfl
theorem i902 : gE x23 (tx 9 0) 2 = some (eR 0 2) := by kernel_rfl
theorem s902 : gE x36 (tx 9 0) 2 = some (eR 0 2) := by kernel_rfl
theorem i903 : gE x23 (tx 9 0) 3 = some (eR 0 3) := by kernel_rfl
theorem s903 : gE x36 (tx 9 0) 3 = some (eR 0 3) := by kernel_rfl
theorem a91 : gA (tx 9 1) = some (.bool false) := by kernel_rfl
theorem i910 : gE x23 (tx 9 1) 0 = some (eR 1 0) := by kernel_rfl
theorem s910 : gE x36 (tx 9 1) 0 = some (eR 1 0) := by kernel_rfl
theorem i911 : gE x23 (tx 9 1) 1 = some (eR 1 1) := by kernel_rfl
theorem s911 : gE x36 (tx 9 1) 1 = some (eR 1 1) := by kernel_rfl
theorem i912 : gE x23 (tx 9 1) 2 = some (eR 1 2) := by kernel_rfl
theorem s912 : gE x36 (tx 9 1) 2 = some (eR 1 2) := by kernel_rfl
theorem i913 : gE x23 (tx 9 1) 3 = some (eR 1 3) := by kernel_rfl
theorem s913 : gE x36 (tx 9 1) 3 = some (eR 1 3) := by kernel_rfl
theorem a92 : gA (tx 9 2) = some (.bool false) := by kernel_rfl
theorem i920 : gE x23 (tx 9 2) 0 = some (eR 2 0) := by kernel_rfl
theorem s920 : gE x36 (tx 9 2) 0 = some (eR 2 0) := by kernel_rfl
theorem i921 : gE x23 (tx 9 2) 1 = some (eR 2 1) := by kernel_rfl
theorem s921 : gE x36 (tx 9 2) 1 = some (eR 2 1) := by kernel_rfl
theorem i922 : gE x23 (tx 9 2) 2 = some (eR 2 2) := by kernel_rfl
theorem s922 : gE x36 (tx 9 2) 2 = some (eR 2 2) := by kernel_rfl
theorem i923 : gE x23 (tx 9 2) 3 = some (eR 2 3) := by kernel_rfl
theorem s923 : gE x36 (tx 9 2) 3 = some (eR 2 3) := by kernel_rfl
theorem a93 : gA (tx 9 3) = some (.bool false) := by kernel_rfl
theorem i930 : gE x23 (tx 9 3) 0 = some (eR 3 0) := by kernel_rfl
theorem s930 : gE x36 (tx 9 3) 0 = some (eR 3 0) := by kernel_rfl
theorem i931 : gE x23 (tx 9 3) 1 = some (eR 3 1) := by kernel_rfl
theorem s931 : gE x36 (tx 9 3) 1 = some (eR 3 1) := by kernel_rfl
theorem i932 : gE x23 (tx 9 3) 2 = some (eR 3 2) := by kernel_rfl
theorem s932 : gE x36 (tx 9 3) 2 = some (eR 3 2) := by kernel_rfl
theorem i933 : gE x23 (tx 9 3) 3 = some (eR 3 3) := by kernel_rfl
theorem s933 : gE x36 (tx 9 3) 3 = some (eR 3 3) := by kernel_rfl
theorem a94 : gA (tx 9 4) = some (.bool false) := by kernel_rfl
theorem i940 : gE x23 (tx 9 4) 0 = some (eR 4 0) := by kernel_rfl
theorem s940 : gE x36 (tx 9 4) 0 = some (eR 4 0) := by kernel_rfl
theorem i941 : gE x23 (tx 9 4) 1 = some (eR 4 1) := by kernel_rfl
theorem s941 : gE x36 (tx 9 4) 1 = some (eR 4 1) := by kernel_rfl
theorem i942 : gE x23 (tx 9 4) 2 = some (eR 4 2) := by kernel_rfl
theorem s942 : gE x36 (tx 9 4) 2 = some (eR 4 2) := by kernel_rfl
theorem i943 : gE x23 (tx 9 4) 3 = some (eR 4 3) := by kernel_rfl
theorem s943 : gE x36 (tx 9 4) 3 = some (eR 4 3) := by kernel_rfl
theorem a95 : gA (tx 9 5) = some (.bool false) := by kernel_rfl
theorem i950 : gE x23 (tx 9 5) 0 = some (eR 5 0) := by kernel_rfl
theorem s950 : gE x36 (tx 9 5) 0 = some (eR 5 0) := by kernel_rfl
theorem i951 : gE x23 (tx 9 5) 1 = some (eR 5 1) := by kernel_rfl
theorem s951 : gE x36 (tx 9 5) 1 = some (eR 5 1) := by kernel_rfl
theorem i952 : gE x23 (tx 9 5) 2 = some (eR 5 2) := by kernel_rfl
theorem s952 : gE x36 (tx 9 5) 2 = some (eR 5 2) := by kernel_rfl
theorem i953 : gE x23 (tx 9 5) 3 = some (eR 5 3) := by kernel_rfl
theorem s953 : gE x36 (tx 9 5) 3 = some (eR 5 3) := by kernel_rfl
theorem a96 : gA (tx 9 6) = some (.bool false) := by kernel_rfl
theorem i960 : gE x23 (tx 9 6) 0 = some (eR 6 0) := by kernel_rfl
theorem s960 : gE x36 (tx 9 6) 0 = some (eR 6 0) := by kernel_rfl
theorem i961 : gE x23 (tx 9 6) 1 = some (eR 6 1) := by kernel_rfl
theorem s961 : gE x36 (tx 9 6) 1 = some (eR 6 1) := by kernel_rfl
theorem i962 : gE x23 (tx 9 6) 2 = some (eR 6 2) := by kernel_rfl
theorem s962 : gE x36 (tx 9 6) 2 = some (eR 6 2) := by kernel_rfl
theorem i963 : gE x23 (tx 9 6) 3 = some (eR 6 3) := by kernel_rfl
theorem s963 : gE x36 (tx 9 6) 3 = some (eR 6 3) := by kernel_rfl
theorem a97 : gA (tx 9 7) = some (.bool false) := by kernel_rfl
theorem i970 : gE x23 (tx 9 7) 0 = some (eR 7 0) := by kernel_rfl
theorem s970 : gE x36 (tx 9 7) 0 = some (eR 7 0) := by kernel_rfl
theorem i971 : gE x23 (tx 9 7) 1 = some (eR 7 1) := by kernel_rfl
theorem s971 : gE x36 (tx 9 7) 1 = some (eR 7 1) := by kernel_rfl
theorem i972 : gE x23 (tx 9 7) 2 = some (eR 7 2) := by kernel_rfl
theorem s972 : gE x36 (tx 9 7) 2 = some (eR 7 2) := by kernel_rfl
theorem i973 : gE x23 (tx 9 7) 3 = some (eR 7 3) := by kernel_rfl
theorem s973 : gE x36 (tx 9 7) 3 = some (eR 7 3) := by kernel_rfl
theorem a98 : gA (tx 9 8) = some (.bool false) := by kernel_rfl
theorem i980 : gE x23 (tx 9 8) 0 = some (eR 8 0) := by kernel_rfl
theorem s980 : gE x36 (tx 9 8) 0 = some (eR 8 0) := by kernel_rfl
theorem i981 : gE x23 (tx 9 8) 1 = some (eR 8 1) := by kernel_rfl
theorem s981 : gE x36 (tx 9 8) 1 = some (eR 8 1) := by kernel_rfl
theorem i982 : gE x23 (tx 9 8) 2 = some (eR 8 2) := by kernel_rfl
theorem s982 : gE x36 (tx 9 8) 2 = some (eR 8 2) := by kernel_rfl
theorem i983 : gE x23 (tx 9 8) 3 = some (eR 8 3) := by kernel_rfl
theorem s983 : gE x36 (tx 9 8) 3 = some (eR 8 3) := by kernel_rfl
theorem a99 : gA (tx 9 9) = some (.bool true) := by kernel_rfl
theorem i990 : gE x23 (tx 9 9) 0 = some (eR 9 0) := by kernel_rfl
theorem s990 : gE x36 (tx 9 9) 0 = some (eR 9 0) := by kernel_rfl
theorem i991 : gE x23 (tx 9 9) 1 = some (eR 9 1) := by kernel_rfl
theorem s991 : gE x36 (tx 9 9) 1 = some (eR 9 1) := by kernel_rfl
theorem i992 : gE x23 (tx 9 9) 2 = some (eR 9 2) := by kernel_rfl
theorem s992 : gE x36 (tx 9 9) 2 = some (eR 9 2) := by kernel_rfl
theorem i993 : gE x23 (tx 9 9) 3 = some (eR 9 3) := by kernel_rfl
theorem s993 : gE x36 (tx 9 9) 3 = some (eR 9 3) := by kernel_rfl
theorem acc9 (m : Nat) (hm : m < 10) (σ : Store) : LD S 18 [.t (.agg [gL]), .t (.str (tx 9 m))] σ = some (.t (B (Nat.beq 9 m)), σ) := by
  rcases lt10 hm with rfl | rfl | rfl | rfl | rfl | rfl | rfl | rfl | rfl | rfl
  · exact hA a90 σ
  · exact hA a91 σ
  · exact hA a92 σ
  · exact hA a93 σ
  · exact hA a94 σ
  · exact hA a95 σ
  · exact hA a96 σ
  · exact hA a97 σ
  · exact hA a98 σ
  · exact hA a99 σ
theorem ei9 (m c : Nat) (hm : m < 10) (hc : c < 4) (σ : Store) : LD S 23 [.t (.agg [gL]), .t (.str (tx 9 m)), .t (.str [66]), .t (.list [.agg [I c]]), .t (I 2)] σ = some (.t (eR m c), σ) := by
  rcases lt10 hm with rfl | rfl | rfl | rfl | rfl | rfl | rfl | rfl | rfl | rfl <;> rcases lt4 hc with rfl | rfl | rfl | rfl
  · exact hI i900 σ
  · exact hI i901 σ
  · exact hI i902 σ
  · exact hI i903 σ
  · exact hI i910 σ
  · exact hI i911 σ
  · exact hI i912 σ
  · exact hI i913 σ
  · exact hI i920 σ
  · exact hI i921 σ
  · exact hI i922 σ
  · exact hI i923 σ
  · exact hI i930 σ
  · exact hI i931 σ
  · exact hI i932 σ
  · exact hI i933 σ
  · exact hI i940 σ
  · exact hI i941 σ
  · exact hI i942 σ
  · exact hI i943 σ
  · exact hI i950 σ
  · exact hI i951 σ
  · exact hI i952 σ
  · exact hI i953 σ
  · exact hI i960 σ
  · exact hI i961 σ
  · exact hI i962 σ
  · exact hI i963 σ
  · exact hI i970 σ
  · exact hI i971 σ
  · exact hI i972 σ
  · exact hI i973 σ
  · exact hI i980 σ
  · exact hI i981 σ
  · exact hI i982 σ
  · exact hI i983 σ
  · exact hI i990 σ
  · exact hI i991 σ
  · exact hI i992 σ
  · exact hI i993 σ
theorem es9 (m c : Nat) (hm : m < 10) (hc : c < 4) (σ : Store) : LD S 36 [.t (.agg [gL]), .t (.str (tx 9 m)), .t (.str [66]), .t (.list [.agg [I c]]), .t (I 2)] σ = some (.t (eR m c), σ) := by
  rcases lt10 hm with rfl | rfl | rfl | rfl | rfl | rfl | rfl | rfl | rfl | rfl <;> rcases lt4 hc with rfl | rfl | rfl | rfl
  · exact hS s900 σ
  · exact hS s901 σ
  · exact hS s902 σ
  · exact hS s903 σ
  · exact hS s910 σ
  · exact hS s911 σ
  · exact hS s912 σ
  · exact hS s913 σ
  · exact hS s920 σ
  · exact hS s921 σ
  · exact hS s922 σ
  · exact hS s923 σ
  · exact hS s930 σ
  · exact hS s931 σ
  · exact hS s932 σ
  · exact hS s933 σ
  · exact hS s940 σ
  · exact hS s941 σ
  · exact hS s942 σ
  · exact hS s943 σ
  · exact hS s950 σ
  · exact hS s951 σ
  · exact hS s952 σ
  · exact hS s953 σ
  · exact hS s960 σ
  · exact hS s961 σ
  · exact hS s962 σ
  · exact hS s963 σ
  · exact hS s970 σ
  · exact hS s971 σ
  · exact hS s972 σ
  · exact hS s973 σ
  · exact hS s980 σ
  · exact hS s981 σ
  · exact hS s982 σ
  · exact hS s983 σ
  · exact hS s990 σ
  · exact hS s991 σ
  · exact hS s992 σ
  · exact hS s993 σ
end TzLe
end X
