-- Written by shrink.py, a program of this session: what the law needs of the print and its words. Lean checks it.
import Derived.Test.YtijmdmnhbbcahaaZPTallyStepsx0
import Derived.Test.YtijmdmnhbbcahaaZPTallyStepsx1
import Derived.Test.YtijmdmnhbbcahaaZPTallyStepsx2
import Derived.Test.YtijmdmnhbbcahaaZPTallyStepsx3
import Derived.Test.YtijmdmnhbbcahaaZPTallyStepsx4
import Derived.Test.YtijmdmnhbbcahaaZPTallyStepsx5
import Derived.Test.YtijmdmnhbbcahaaZPTallyStepsx6
import Derived.Test.YtijmdmnhbbcahaaZPTallyStepsx7
import Derived.Test.YtijmdmnhbbcahaaZPTallyStepsx8
import Derived.Test.YtijmdmnhbbcahaaZPTallyStepsx9
import Derived.Test.YtijmdmnhbbcahaaZPTallyStepsx10
import Derived.Test.YtijmdmnhbbcahaaZPTallyStepsx11
import Derived.Test.YtijmdmnhbbcahaaZPTallyStepsx12
import Derived.Test.YtijmdmnhbbcahaaZPTallyStepsx13
import Derived.Test.YtijmdmnhbbcahaaZPTallyStepsx14
